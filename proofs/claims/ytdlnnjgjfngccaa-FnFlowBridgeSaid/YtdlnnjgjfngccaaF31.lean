-- Written by oprint.py (wip/tools) over the kit's print program, for this seat.
import Derived.Test.YtdlnnjgjfngccaaF0
namespace Go.Proofs.Ytdlnnjgjfngccaa.F
open Go.RowKit Go.Proofs.YtdlnnjgjfngccaaW.PrintWords Go.Proofs.YtdlnnjgjfngccaaW.PrintLast Go.Proofs.YtdlnnjgjfngccaaW.PrintMore
attribute [local go_sem] max2_int min2_int max_two min_two max_three min_three max_four min_four   -- for this text's walks alone
set_option linter.unusedVariables false
set_option linter.unusedSimpArgs false

/-! ### impl_Net_parts: function 121 -/
mutual
def impl_Net_parts.l0 : Nat → List Int → Int → Int → Int → List (S73) → Option (List Int)
 | 0, _, _, _, _, _ => none
 | k + 1, x3, x11, x12, x412000, x412001 => if x12 < x11 then (if x3.length < 17592186044416 then (impl_Net_parts.l0 k (x3 ++ [x12]) x11 (wrap64 (x12 + 1)) x412000 x412001) else (none)) else (impl_Net_parts.l1 k x3 true x412000 x412001)
def impl_Net_parts.l1 : Nat → List Int → Bool → Int → List (S73) → Option (List Int)
 | 0, _, _, _, _ => none
 | k + 1, x3, x5, x412000, x412001 => if x5 = true then (impl_Net_parts.l2 k x3 false x412001 (x412001.length : Int) 0 x412000 x412001) else (some x3)
def impl_Net_parts.l2 : Nat → List Int → Bool → List (S73) → Int → Int → Int → List (S73) → Option (List Int)
 | 0, _, _, _, _, _, _, _ => none
 | k + 1, x3, x5, x22, x23, x24, x412000, x412001 => if x24 < x23 then (if 0 ≤ x24 then (if x24 < (x22.length : Int) then (if 0 ≤ ((rd_T73 x22 x24).f0) then (if ((rd_T73 x22 x24).f0) < (x3.length : Int) then (if 0 ≤ ((rd_T73 x22 x24).f1) then (if ((rd_T73 x22 x24).f1) < (x3.length : Int) then (if (rd x3 ((rd_T73 x22 x24).f0)) = (rd x3 ((rd_T73 x22 x24).f1)) then (impl_Net_parts.l2 k x3 x5 x22 x23 (wrap64 (x24 + 1)) x412000 x412001) else (impl_Net_parts.l2 k ((x3.set (((rd_T73 x22 x24).f0) : Int).toNat (mn (rd x3 ((rd_T73 x22 x24).f0)) (rd x3 ((rd_T73 x22 x24).f1)))).set (((rd_T73 x22 x24).f1) : Int).toNat (mn (rd x3 ((rd_T73 x22 x24).f0)) (rd x3 ((rd_T73 x22 x24).f1)))) true x22 x23 (wrap64 (x24 + 1)) x412000 x412001)) else (none)) else (none)) else (none)) else (none)) else (none)) else (none)) else (impl_Net_parts.l1 k x3 x5 x412000 x412001)
end
def impl_Net_parts.f (k : Nat) (a0_0 : Int) (l0_1 : List (S73)) : Option (List Int) := impl_Net_parts.l0 k (([] : List Int)) a0_0 0 a0_0 l0_1
theorem impl_Net_parts.mono_l : ∀ k, (∀ y0 y1 y2 y3 y4, LeO (impl_Net_parts.l0 k y0 y1 y2 y3 y4) (impl_Net_parts.l0 (k + 1) y0 y1 y2 y3 y4)) ∧ (∀ y0 y1 y2 y3, LeO (impl_Net_parts.l1 k y0 y1 y2 y3) (impl_Net_parts.l1 (k + 1) y0 y1 y2 y3)) ∧ (∀ y0 y1 y2 y3 y4 y5 y6, LeO (impl_Net_parts.l2 k y0 y1 y2 y3 y4 y5 y6) (impl_Net_parts.l2 (k + 1) y0 y1 y2 y3 y4 y5 y6))
 | 0 => ⟨fun _ _ _ _ _ r h => by simp [impl_Net_parts.l0] at h, fun _ _ _ _ r h => by simp [impl_Net_parts.l1] at h, fun _ _ _ _ _ _ _ r h => by simp [impl_Net_parts.l2] at h⟩
 | k + 1 => by
  obtain ⟨ih0, ih1, ih2⟩ := impl_Net_parts.mono_l k
  refine ⟨?_, ?_, ?_⟩
  ·intro y0 y1 y2 y3 y4
   unfold impl_Net_parts.l0
   exact mo_
  ·intro y0 y1 y2 y3
   unfold impl_Net_parts.l1
   exact mo_
  ·intro y0 y1 y2 y3 y4 y5 y6
   unfold impl_Net_parts.l2
   exact mo_
theorem impl_Net_parts.mono : ∀ a0 a1 k, LeO (impl_Net_parts.f k a0 a1) (impl_Net_parts.f (k + 1) a0 a1) := by
 intro a0 a1 k
 obtain ⟨ih0, ih1, ih2⟩ := impl_Net_parts.mono_l k
 unfold impl_Net_parts.f
 exact mo_
def impl_Net_parts.T13 : Bool × List (List Nat × List Nat) := (true, [([], []), ([], []), ([1], [1]), ([0, 2], [0, 2]), ([3], [3]), ([], []), ([], []), ([6], [6]), ([5, 7], [5, 7]), ([8], [8]), ([4, 9], [4, 9]), ([10, 0, 1, 2, 3, 4, 5, 6, 7, 8, 9, 10], [10])])
def impl_Net_parts.B13 : List Nat := [0, 0, 2, 7, 15, 0, 0, 64, 224, 480, 1023, 2047]
theorem impl_Net_parts.tab13 : rtab .any (opsOf Try.f121 13) = impl_Net_parts.T13 := by kernel_rfl
theorem impl_Net_parts.bits13 : waitsOk impl_Net_parts.T13.2 impl_Net_parts.B13 = true := by kernel_rfl
def impl_Net_parts.T14 : Bool × List (List Nat × List Nat) := (true, [([], []), ([], []), ([1], [1]), ([0, 2], [0, 2]), ([3], [3]), ([], []), ([], []), ([6], [6]), ([5, 7], [5, 7]), ([8], [8]), ([4, 9], [4, 9])])
def impl_Net_parts.B14 : List Nat := [0, 0, 2, 7, 15, 0, 0, 64, 224, 480, 1023]
theorem impl_Net_parts.tab14 : rtab .any (opsOf Try.f121 14) = impl_Net_parts.T14 := by kernel_rfl
theorem impl_Net_parts.bits14 : waitsOk impl_Net_parts.T14.2 impl_Net_parts.B14 = true := by kernel_rfl
def impl_Net_parts.T15 : Bool × List (List Nat × List Nat) := (true, [([], []), ([], []), ([1], [1]), ([], []), ([], []), ([4], [4]), ([], []), ([], []), ([0, 2, 0, 1, 2, 6], [0, 2]), ([8, 6, 0, 1, 2, 6], [6, 8]), ([3, 5, 0, 1, 2, 3, 4, 5, 6, 7, 8, 9], [3, 5]), ([10, 7, 9, 0, 1, 2, 3, 4, 5, 6, 7, 8, 9], [7, 10])])
def impl_Net_parts.B15 : List Nat := [0, 0, 2, 0, 0, 16, 0, 0, 71, 327, 1023, 2047]
theorem impl_Net_parts.tab15 : rtab .any (opsOf Try.f121 15) = impl_Net_parts.T15 := by kernel_rfl
theorem impl_Net_parts.bits15 : waitsOk impl_Net_parts.T15.2 impl_Net_parts.B15 = true := by kernel_rfl
set_option maxHeartbeats 8000000 in
set_option maxRecDepth 100000 in
theorem impl_Net_parts.calls (k : Nat) (a0_0 : Int) (A0_1 : Option Addr) (c0_1 : Nat) (l0_1 : List (S73)) (r : List Int) (w : World) (hr0_1 : Kd.C k73 w A0_1 l0_1.length l0_1) (hc0_1 : l0_1.length ≤ c0_1) (h : impl_Net_parts.f k a0_0 l0_1 = some r) :
  Calls Try.prog 121 #[.agg #[.int .i64 a0_0, .slice A0_1 l0_1.length c0_1]] w fun e w' => ∃ v0_ : Value, e = .returned (v0_) ∧ Kd.R (Kd.int .i64) 3 w' w.heap.size (fun _ => True) v0_ r ∧ Below w.heap.size w w' := by
 have hu34 := Try.underlying34
 have hu73 := Try.underlying73
 have HR0_1 := am hr0_1
 have HC0_1 := am hc0_1
 clear hr0_1 hc0_1
 have HB := am (Below.refl w.heap.size w)
 have H : (impl_Net_parts.l0 k (([] : List Int)) a0_0 0 a0_0 l0_1) = some r := h
 clear h
 obtain ⟨y412, hy412⟩ : ∃ y_ : List Int, y_ = (([] : List Int)) := ⟨_, rfl⟩
 replace H : (impl_Net_parts.l0 k y412 a0_0 0 a0_0 l0_1) = some r := nh_ hy412 H
 have Ny412 := am hy412
 clear hy412
 have H' := am H
 clear H
 go_enter Try.func121, Try.ntmps121
 go_wp2_with (first | ((with_reducible refine gate_dst (N := 1) rfl ?_); refine be_ 1 #[.int .i64 a0_0, .slice A0_1 l0_1.length c0_1] 34 ?_; intro gb411 hg w2 hbox hb; have BK411 := am hbox; have GW411 := am (ge_ hg HB); have GE411 := am (ge_ hg HB); replace HB := bs HB hb; clear hb hbox hg) | ((with_reducible refine gate_dst (N := 9) rfl ?_); refine Kd.R_lit (Kd.int .i64) _ 3 ?hg (N := 9) ?hd (xs := ([] : List Int)) (inner := []) (ok := fun _ => True) (okp := fun _ => True) ?hr ?hp (fun _ hk => hk) trivial (Below.refl _ _) (Nat.le_refl _) (by simp) ?_; (case hd => rfl); (case hg => rfl); (case hr => first | (go_simp; done) | (go_simp; rfl)); (case hp => exact (Reps.none _ _)); intro v413 w3 ho4 hb hg_ hnew_; clear hg_ hnew_; (first | rw [← Ny412.out] at ho4 | (simp only [Int.reduceToNat] at ho4; rw [← Ny412.out] at ho4)); have HO414 := am (Kd.R_lower ho4 (below_size (bn HB))); replace BK411 := bb BK411 hb; replace HB := bs HB hb; clear hb ho4; obtain ⟨hcz5_0, hcz5_1, hfz5_0, hfz5_1⟩ := c2 BK411))
 go_loopg [3, 12] k (fun kq v3 v12 w' => ∃ (x3_1 : List Int) (x12_1 : Int), v12 = .int .i64 x12_1 ∧ Aside0 (impl_Net_parts.l0 kq x3_1 a0_0 x12_1 a0_0 l0_1 = some r) ∧ Aside0 (kq ≤ k) ∧ Aside0 (Kd.R (Kd.int .i64) 3 w' w.heap.size (fun _ => True) v3 x3_1) ∧ Aside0 (w'.heap[gb411]? = some (.cells #[.int .i64 a0_0, (.slice A0_1 l0_1.length c0_1)] 34 (0, 0))) ∧ Aside0 (Below w.heap.size w w'))
 case atStart => exact ⟨(y412), (0), (by first | rfl | (simp; done) | (simp [*]; done)), H', ⟨Nat.le_refl _⟩, ⟨onR HO414⟩, ⟨bkn BK411⟩, ⟨bn HB⟩⟩
 case round =>
  clear H'
  try clear c1
  try clear p2
  try clear hcz5_0 hcz5_1 hfz5_0 hfz5_1
  obtain ⟨x3_1, x12_1, rfl, HA, HK1, HO_3, BK411, HB⟩ := hrel
  cases gk with
  | zero => exact absurd HA.out (by simp [impl_Net_parts.l0])
  | succ k1 =>
   have H := HA.out
   clear HA
   simp only [impl_Net_parts.l0] at H
   by_cases c6 : x12_1 < a0_0
   ·rw [if_pos c6] at H
    have c6b0 := decide_eq_true c6
    clear c6
    obtain ⟨c7, H⟩ := ig_ H
    have LMc7 := am c7
    clear c7
    obtain ⟨y415, hy415⟩ : ∃ y_ : List Int, y_ = (x3_1 ++ [x12_1]) := ⟨_, rfl⟩
    replace H : (impl_Net_parts.l0 k1 y415 a0_0 (wrap64 (x12_1 + 1)) a0_0 l0_1) = some r := nh_ hy415 H
    have Ny415 := am hy415
    clear hy415
    have H' := am H
    clear H
    go_wp2_with (first | ((with_reducible refine gate_builtin (b := .append) (xs := #[.tmp 15, .tmp 17]) rfl ?_); at_builtin; refine Kd.R_append (Kd.int .i64) (w0 := w) w.heap.size rfl (.tmp 15) (.tmp 17) 40 3 (.int .i64 0) 8 rfl Try.underlying40 info3 rfl (by decide) (by omega) u3 x3_1 x12_1 [.int .i64 x12_1] (fun _ => True) (fun _ => False) rfl rfl ?aP (fun _ hk => hk.elim) ?aF ?aO ?aB ?aS ?aL ?_; (case aP => exact rfl); (case aB => exact (bn HB)); (case aF => exact (fun _ _ => trivial)); (case aO => exact (onR HO_3)); (case aS => exact (below_size (bn HB))); (case aL => have := LMc7.out; omega); intro v416 w8 ho hb hg hat; rw [← Ny415.out] at ho; replace BK411 := am (blk_grown (bkn BK411) hg (Kd.R_ne HO_3.out BK411.out (by decide))); replace HB := am hb; have HO417 := am ho; clear HO_3; clear ho hb hg hat))
    go_roundg k1
    case measure => have := HK1.out; omega
    case rel => exact ⟨(y415), (wrap64 (x12_1 + 1)), (by first | rfl | (simp; done) | (simp [*]; done)), H', ⟨by have := HK1.out; omega⟩, ⟨onR HO417⟩, ⟨bkn BK411⟩, ⟨bn HB⟩⟩
   ·rw [if_neg c6] at H
    have c6b0 := decide_eq_false c6
    clear c6
    have H' := am H
    clear H
    go_wp2
    go_loopg [5] k1 (fun kq v5 w' => ∃ (x3_2 : List Int) (x5_2 : Bool), v5 = .bool x5_2 ∧ Aside0 (impl_Net_parts.l1 kq x3_2 x5_2 a0_0 l0_1 = some r) ∧ Aside0 (kq ≤ k1) ∧ Aside0 (Kd.R (Kd.int .i64) 3 w' w.heap.size (fun _ => True) u3 x3_2) ∧ Aside0 (w'.heap[gb411]? = some (.cells #[.int .i64 a0_0, (.slice A0_1 l0_1.length c0_1)] 34 (0, 0))) ∧ Aside0 (Below w.heap.size w w'))
    case atStart => exact ⟨(x3_1), (true), (by first | rfl | (simp; done) | (simp [*]; done)), H', ⟨Nat.le_refl _⟩, ⟨onR HO_3⟩, ⟨bkn BK411⟩, ⟨bn HB⟩⟩
    case round =>
     clear H'
     try clear c1
     try clear p2
     try clear c6
     try clear c6b0
     try clear p6
     try clear c7
     try clear hcz5_0 hcz5_1 hfz5_0 hfz5_1
     try clear p2
     obtain ⟨x3_2, x5_2, rfl, HA, HK2, HO_3, BK411, HB⟩ := hrel
     cases gk with
     | zero => exact absurd HA.out (by simp [impl_Net_parts.l1])
     | succ k2 =>
      have H := HA.out
      clear HA
      simp only [impl_Net_parts.l1] at H
      by_cases c9 : x5_2 = true
      ·subst c9
       rw [if_pos rfl] at H
       have H' := am H
       clear H
       obtain ⟨hcz10_0, hcz10_1, hfz10_0, hfz10_1⟩ := c2 BK411
       go_wp2
       go_loopg [5, 24] k2 (fun kq v5 v24 w' => ∃ (x3_3 : List Int) (x5_3 : Bool) (x24_3 : Int), v5 = .bool x5_3 ∧ v24 = .int .i64 x24_3 ∧ Aside0 (impl_Net_parts.l2 kq x3_3 x5_3 l0_1 (l0_1.length : Int) x24_3 a0_0 l0_1 = some r) ∧ Aside0 (kq ≤ k2) ∧ Aside0 (Kd.R (Kd.int .i64) 3 w' w.heap.size (fun _ => True) u3 x3_3) ∧ Aside0 (w'.heap[gb411]? = some (.cells #[.int .i64 a0_0, (.slice A0_1 l0_1.length c0_1)] 34 (0, 0))) ∧ Aside0 (Below w.heap.size w w'))
       case atStart => exact ⟨(x3_2), (false), (0), (by first | rfl | (simp; done) | (simp [*]; done)), (by first | rfl | (simp; done) | (simp [*]; done)), H', ⟨Nat.le_refl _⟩, ⟨onR HO_3⟩, ⟨bkn BK411⟩, ⟨bn HB⟩⟩
       case round =>
        clear H'
        try clear c1
        try clear p2
        try clear c6
        try clear c6b0
        try clear p6
        try clear c7
        try clear c9
        try clear hcz10_0 hcz10_1 hfz10_0 hfz10_1
        try clear hcz5_0 hcz5_1 hfz5_0 hfz5_1
        try clear p2
        try clear p6
        obtain ⟨x3_3, x5_3, x24_3, rfl, rfl, HA, HK3, HO_3, BK411, HB⟩ := hrel
        cases gk with
        | zero => exact absurd HA.out (by simp [impl_Net_parts.l2])
        | succ k3 =>
         have H := HA.out
         clear HA
         simp only [impl_Net_parts.l2] at H
         by_cases c11 : x24_3 < (l0_1.length : Int)
         ·rw [if_pos c11] at H
          have c11b0 := decide_eq_true c11
          clear c11
          obtain ⟨c12, H⟩ := ig_ H
          have c12b0 := decide_eq_true c12
          clear c12
          obtain ⟨c13, H⟩ := ig_ H
          have c13b0 := decide_eq_true c13
          clear c13
          obtain ⟨c14, H⟩ := ig_ H
          have c14b0 := decide_eq_true c14
          clear c14
          obtain ⟨c15, H⟩ := ig_ H
          have c15b0 := decide_eq_true c15
          clear c15
          obtain ⟨c16, H⟩ := ig_ H
          have c16b0 := decide_eq_true c16
          clear c16
          obtain ⟨c17, H⟩ := ig_ H
          have c17b0 := decide_eq_true c17
          clear c17
          obtain ⟨ji18, hji18⟩ : ∃ j_ : Int, (mn (rd x3_3 ((rd_T73 l0_1 x24_3).f0)) (rd x3_3 ((rd_T73 l0_1 x24_3).f1))) = j_ := ⟨_, rfl⟩
          replace H : (if (rd x3_3 ((rd_T73 l0_1 x24_3).f0)) = (rd x3_3 ((rd_T73 l0_1 x24_3).f1)) then (impl_Net_parts.l2 k3 x3_3 x5_3 l0_1 (l0_1.length : Int) (wrap64 (x24_3 + 1)) a0_0 l0_1) else (impl_Net_parts.l2 k3 ((x3_3.set (((rd_T73 l0_1 x24_3).f0) : Int).toNat (ji18)).set (((rd_T73 l0_1 x24_3).f1) : Int).toNat (ji18)) true l0_1 (l0_1.length : Int) (wrap64 (x24_3 + 1)) a0_0 l0_1)) = some r := by first | (rw [hji18] at H; exact H) | (simp only [hji18] at H ⊢; exact H)
          have hji18_ : (if (rd x3_3 ((rd_T73 l0_1 x24_3).f1)) < (rd x3_3 ((rd_T73 l0_1 x24_3).f0)) then (rd x3_3 ((rd_T73 l0_1 x24_3).f1)) else (rd x3_3 ((rd_T73 l0_1 x24_3).f0))) = ji18 := hji18
          by_cases c19 : (rd x3_3 ((rd_T73 l0_1 x24_3).f0)) = (rd x3_3 ((rd_T73 l0_1 x24_3).f1))
          ·rw [if_pos c19] at H
           have c19b0 : ((rd x3_3 ((rd_T73 l0_1 x24_3).f0)) == (rd x3_3 ((rd_T73 l0_1 x24_3).f1))) = true := beq_iff_eq.mpr c19
           have c19b1 : ((rd x3_3 ((rd_T73 l0_1 x24_3).f0)) != (rd x3_3 ((rd_T73 l0_1 x24_3).f1))) = false := bne_eq_false_iff_eq.mpr c19
           clear c19
           have H' := am H
           clear H
           have p418 : 0 ≤ (x24_3 : Int) := oa
           have q418 : x24_3 < (l0_1.length : Int) := oa
           obtain ⟨ad418, e418, hx418_0, hx418_1⟩ := at_T73 HR0_1.out x24_3 p418 q418
           cases e418
           replace hx418_0 := (HB.out.cell (World.block_lt_of_cell? w _ hx418_0)).trans hx418_0
           replace hx418_1 := (HB.out.cell (World.block_lt_of_cell? w _ hx418_1)).trans hx418_1
           replace p418 := eq_true p418
           replace q418 := eq_true q418
           try go_wp2_with (first | ((with_reducible refine gate_dst (N := 7) rfl ?_); refine be_ 7 #[.int .i64 0, .int .i64 0] 73 ?_; intro gb419 hg w20 hbox hb; replace HO_3 := am (Kd.R_below (onR HO_3) hb); have BK419 := am hbox; have GW419 := am (ge_ hg HB); have GE419 := am (ge_ hg HB); replace HB := bs HB hb; obtain ⟨NB411_419, NB419_411⟩ := nb_ hg BK411; replace BK411 := bb BK411 hb; clear hb hbox hg; obtain ⟨hnb21, hnc21⟩ := n2 NB419_411 NB411_419; obtain ⟨hcz22_0, hcz22_1, hfz22_0, hfz22_1⟩ := c2 BK419))
           have n0_ : Aside0 (Kd.R (Kd.int .i64) 3 ((w20.setCell ⟨gb419, 0, none⟩ (.int .i64 ((rd_T73 l0_1 x24_3).f0))).setCell ⟨gb419, 1, none⟩ (.int .i64 ((rd_T73 l0_1 x24_3).f1))) w.heap.size (fun _ => True) u3 x3_3) := ⟨by (with_reducible repeat (first | apply Kd.R_alloc | apply Kd.R_drewN | apply Kd.R_drew)); exact Kd.R_mono (Kd.R_far (p := ⟨gb419, 1, none⟩) (Kd.R_far (p := ⟨gb419, 0, none⟩) (Kd.R_types HO_3.out BK419.out (by decide)) (fun _ hk => hk.2) (.int .i64 ((rd_T73 l0_1 x24_3).f0))) (fun _ hk => hk.2) (.int .i64 ((rd_T73 l0_1 x24_3).f1))) (fun _ hk => trivial)⟩
           have n1_ : Aside0 (((w20.setCell ⟨gb419, 0, none⟩ (.int .i64 ((rd_T73 l0_1 x24_3).f0))).setCell ⟨gb419, 1, none⟩ (.int .i64 ((rd_T73 l0_1 x24_3).f1))).heap[gb411]? = some (.cells #[.int .i64 a0_0, .slice (some ad418) l0_1.length c0_1] 34 (0, 0))) := ⟨bkn BK411⟩
           have n2_ : Aside0 (((w20.setCell ⟨gb419, 0, none⟩ (.int .i64 ((rd_T73 l0_1 x24_3).f0))).setCell ⟨gb419, 1, none⟩ (.int .i64 ((rd_T73 l0_1 x24_3).f1))).heap[gb419]? = some (.cells #[.int .i64 ((rd_T73 l0_1 x24_3).f0), .int .i64 ((rd_T73 l0_1 x24_3).f1)] 73 (0, 0))) := ⟨by (with_reducible repeat (first | refine blk_drewN ?_ _ | refine blk_drew ?_ | refine blk_alloc ?_ _)); refine blk_put (cs := #[.int .i64 ((rd_T73 l0_1 x24_3).f0), .int .i64 0]) ?_ 1 _ rfl; (with_reducible repeat (first | refine blk_drewN ?_ _ | refine blk_drew ?_ | refine blk_alloc ?_ _)); refine blk_put (cs := #[.int .i64 0, .int .i64 0]) ?_ 0 _ rfl; (with_reducible repeat (first | refine blk_drewN ?_ _ | refine blk_drew ?_ | refine blk_alloc ?_ _)); exact BK419.out⟩
           have n3_ : Aside0 (Below w.heap.size w ((w20.setCell ⟨gb419, 0, none⟩ (.int .i64 ((rd_T73 l0_1 x24_3).f0))).setCell ⟨gb419, 1, none⟩ (.int .i64 ((rd_T73 l0_1 x24_3).f1)))) := ⟨bn HB⟩
           (try clear HO_3)
           (try clear BK411)
           (try clear BK419)
           (try clear HB)
           generalize ((w20.setCell ⟨gb419, 0, none⟩ (.int .i64 ((rd_T73 l0_1 x24_3).f0))).setCell ⟨gb419, 1, none⟩ (.int .i64 ((rd_T73 l0_1 x24_3).f1))) = w23 at n0_ n1_ n2_ n3_ ⊢
           have HO_3 := n0_
           have BK411 := n1_
           have BK419 := n2_
           have HB := n3_
           clear n0_ n1_ n2_ n3_
           replace HO_3 := am (Kd.R_drew HO_3.out)
           replace BK411 := am (blk_drew BK411.out)
           replace BK419 := am (blk_drew BK419.out)
           replace HB := am (below_drew1 HB.out)
           obtain ⟨Ao25, co25, eo25⟩ := Kd.R_slice HO_3.out
           (first | subst eo25 | (injection eo25 with f1_ f2_ f3_; have f4_ := f1_.symm; have f5_ := f3_.symm; clear f1_ f2_ f3_; subst f4_; subst f5_))
           have p420 : 0 ≤ (((rd_T73 l0_1 x24_3).f0) : Int) := oa
           have q420 : ((rd_T73 l0_1 x24_3).f0) < (x3_3.length : Int) := oa
           obtain ⟨ad420, e420, hx420_0⟩ := Kd.at_int (Kd.R_reads' HO_3.out).2.2 ((rd_T73 l0_1 x24_3).f0) p420 q420
           cases e420
           replace p420 := eq_true p420
           replace q420 := eq_true q420
           have p421 : 0 ≤ (((rd_T73 l0_1 x24_3).f1) : Int) := oa
           have q421 : ((rd_T73 l0_1 x24_3).f1) < (x3_3.length : Int) := oa
           obtain ⟨ad421, e421, hx421_0⟩ := Kd.at_int (Kd.R_reads' HO_3.out).2.2 ((rd_T73 l0_1 x24_3).f1) p421 q421
           obtain rfl : ad420 = ad421 := (by injection e421)
           replace p421 := eq_true p421
           replace q421 := eq_true q421
           refine start_ (n := 12) (S := fun w' => w'.cell? ⟨gb419, 0, none⟩ = some (.int .i64 ((rd_T73 l0_1 x24_3).f0)) ∧ w'.cell? ⟨gb419, 1, none⟩ = some (.int .i64 ((rd_T73 l0_1 x24_3).f1)) ∧ w'.cell? (ad420.add (((rd_T73 l0_1 x24_3).f0)).toNat) = some (.int .i64 (rd x3_3 ((rd_T73 l0_1 x24_3).f0))) ∧ w'.cell? (ad420.add (((rd_T73 l0_1 x24_3).f1)).toNat) = some (.int .i64 (rd x3_3 ((rd_T73 l0_1 x24_3).f1)))) (ds := []) #[false, false, false, false, false, false, false, false, false, false, false, false] (by kernel_rfl) rfl rfl ⟨(bc BK419 0), (bc BK419 1), hx420_0, hx421_0⟩ (fun hHeld => ?_); refine with_tabW impl_Net_parts.tab13 impl_Net_parts.bits13 (fun HT_ HW_ => ?_)
           generalize w23.drew = w24 at HO_3 BK411 BK419 HB hx420_0 hx421_0 hHeld ⊢
           refine pz_ 0 (some 28) HT_ ?_
           refine pz_ 1 (some 29) HT_ ?_
           refine pz_ 5 (some 33) HT_ ?_
           refine pz_ 6 (some 34) HT_ ?_
           refine tz_ 2 (some 30) HT_ HW_ hHeld ?_
           refine pz_ 3 (some 31) HT_ ?_
           refine tz_ 4 (some 32) HT_ HW_ hHeld ?_
           refine tz_ 7 (some 35) HT_ HW_ hHeld ?_
           refine pz_ 8 (some 36) HT_ ?_
           refine tz_ 9 (some 37) HT_ HW_ hHeld ?_
           refine pz_ 10 (some 38) HT_ ?_
           refine pz_ 11 (some 8) HT_ ?_
           refine done_ (done_of HT_.out (by kernel_rfl)) ?_
           try go_wp2
           replace HO_3 := am (Kd.R_drew HO_3.out)
           replace BK411 := am (blk_drew BK411.out)
           replace BK419 := am (blk_drew BK419.out)
           replace HB := am (below_drew1 HB.out)
           have p422 : 0 ≤ (((rd_T73 l0_1 x24_3).f0) : Int) := oa
           have q422 : ((rd_T73 l0_1 x24_3).f0) < (x3_3.length : Int) := oa
           obtain ⟨ad422, e422, hx422_0⟩ := Kd.at_int (Kd.R_reads' HO_3.out).2.2 ((rd_T73 l0_1 x24_3).f0) p422 q422
           obtain rfl : ad420 = ad422 := (by injection e422)
           replace p422 := eq_true p422
           replace q422 := eq_true q422
           have p423 : 0 ≤ (((rd_T73 l0_1 x24_3).f1) : Int) := oa
           have q423 : ((rd_T73 l0_1 x24_3).f1) < (x3_3.length : Int) := oa
           obtain ⟨ad423, e423, hx423_0⟩ := Kd.at_int (Kd.R_reads' HO_3.out).2.2 ((rd_T73 l0_1 x24_3).f1) p423 q423
           obtain rfl : ad420 = ad423 := (by injection e423)
           replace p423 := eq_true p423
           replace q423 := eq_true q423
           refine start_ (n := 11) (S := fun w' => w'.cell? ⟨gb419, 0, none⟩ = some (.int .i64 ((rd_T73 l0_1 x24_3).f0)) ∧ w'.cell? ⟨gb419, 1, none⟩ = some (.int .i64 ((rd_T73 l0_1 x24_3).f1)) ∧ w'.cell? (ad420.add (((rd_T73 l0_1 x24_3).f0)).toNat) = some (.int .i64 (rd x3_3 ((rd_T73 l0_1 x24_3).f0))) ∧ w'.cell? (ad420.add (((rd_T73 l0_1 x24_3).f1)).toNat) = some (.int .i64 (rd x3_3 ((rd_T73 l0_1 x24_3).f1)))) (ds := []) #[false, false, false, false, false, false, false, false, false, false, false] (by kernel_rfl) rfl rfl ⟨(bc BK419 0), (bc BK419 1), hx422_0, hx423_0⟩ (fun hHeld => ?_); refine with_tabW impl_Net_parts.tab14 impl_Net_parts.bits14 (fun HT_ HW_ => ?_)
           generalize w24.drew = w26 at HO_3 BK411 BK419 HB hx422_0 hx423_0 hHeld ⊢
           refine pz_ 0 (some 39) HT_ ?_
           refine pz_ 1 (some 40) HT_ ?_
           refine pz_ 5 (some 44) HT_ ?_
           refine pz_ 6 (some 45) HT_ ?_
           refine tz_ 2 (some 41) HT_ HW_ hHeld ?_
           refine pz_ 3 (some 42) HT_ ?_
           refine tz_ 4 (some 43) HT_ HW_ hHeld ?_
           refine tz_ 7 (some 46) HT_ HW_ hHeld ?_
           refine pz_ 8 (some 47) HT_ ?_
           refine tz_ 9 (some 48) HT_ HW_ hHeld ?_
           refine pz_ 10 (some 49) HT_ ?_
           refine done_ (done_of HT_.out (by kernel_rfl)) ?_
           try go_wp2
           go_roundg k3
           case measure => have := HK1.out; have := HK2.out; have := HK3.out; omega
           case rel => exact ⟨(x3_3), (x5_3), (wrap64 (x24_3 + 1)), (by first | rfl | (simp; done) | (simp [*]; done)), (by first | rfl | (simp; done) | (simp [*]; done)), H', ⟨by have := HK1.out; have := HK2.out; have := HK3.out; omega⟩, ⟨onR HO_3⟩, ⟨bkn BK411⟩, ⟨bn HB⟩⟩
          ·rw [if_neg c19] at H
           have c19b0 : ((rd x3_3 ((rd_T73 l0_1 x24_3).f0)) == (rd x3_3 ((rd_T73 l0_1 x24_3).f1))) = false := beq_eq_false_iff_ne.mpr c19
           have c19b1 : ((rd x3_3 ((rd_T73 l0_1 x24_3).f0)) != (rd x3_3 ((rd_T73 l0_1 x24_3).f1))) = true := bne_iff_ne.mpr c19
           obtain ⟨y424, hy424⟩ : ∃ y_ : List Int, y_ = (x3_3.set (((rd_T73 l0_1 x24_3).f0) : Int).toNat (ji18)) := ⟨_, rfl⟩
           replace H : (impl_Net_parts.l2 k3 (y424.set (((rd_T73 l0_1 x24_3).f1) : Int).toNat (ji18)) true l0_1 (l0_1.length : Int) (wrap64 (x24_3 + 1)) a0_0 l0_1) = some r := nh_ hy424 H
           have Ny424 := am hy424
           clear hy424
           obtain ⟨y425, hy425⟩ : ∃ y_ : List Int, y_ = (y424.set (((rd_T73 l0_1 x24_3).f1) : Int).toNat (ji18)) := ⟨_, rfl⟩
           replace H : (impl_Net_parts.l2 k3 y425 true l0_1 (l0_1.length : Int) (wrap64 (x24_3 + 1)) a0_0 l0_1) = some r := nh_ hy425 H
           have Ny425 := am hy425
           clear hy425
           have H' := am H
           clear H
           have p418 : 0 ≤ (x24_3 : Int) := oa
           have q418 : x24_3 < (l0_1.length : Int) := oa
           obtain ⟨ad418, e418, hx418_0, hx418_1⟩ := at_T73 HR0_1.out x24_3 p418 q418
           cases e418
           replace hx418_0 := (HB.out.cell (World.block_lt_of_cell? w _ hx418_0)).trans hx418_0
           replace hx418_1 := (HB.out.cell (World.block_lt_of_cell? w _ hx418_1)).trans hx418_1
           replace p418 := eq_true p418
           replace q418 := eq_true q418
           try go_wp2_with (first | ((with_reducible refine gate_dst (N := 7) rfl ?_); refine be_ 7 #[.int .i64 0, .int .i64 0] 73 ?_; intro gb419 hg w29 hbox hb; replace HO_3 := am (Kd.R_below (onR HO_3) hb); have BK419 := am hbox; have GW419 := am (ge_ hg HB); have GE419 := am (ge_ hg HB); replace HB := bs HB hb; obtain ⟨NB411_419, NB419_411⟩ := nb_ hg BK411; replace BK411 := bb BK411 hb; clear hb hbox hg; obtain ⟨hnb30, hnc30⟩ := n2 NB419_411 NB411_419; obtain ⟨hcz31_0, hcz31_1, hfz31_0, hfz31_1⟩ := c2 BK419))
           have n0_ : Aside0 (Kd.R (Kd.int .i64) 3 ((w29.setCell ⟨gb419, 0, none⟩ (.int .i64 ((rd_T73 l0_1 x24_3).f0))).setCell ⟨gb419, 1, none⟩ (.int .i64 ((rd_T73 l0_1 x24_3).f1))) w.heap.size (fun _ => True) u3 x3_3) := ⟨by (with_reducible repeat (first | apply Kd.R_alloc | apply Kd.R_drewN | apply Kd.R_drew)); exact Kd.R_mono (Kd.R_far (p := ⟨gb419, 1, none⟩) (Kd.R_far (p := ⟨gb419, 0, none⟩) (Kd.R_types HO_3.out BK419.out (by decide)) (fun _ hk => hk.2) (.int .i64 ((rd_T73 l0_1 x24_3).f0))) (fun _ hk => hk.2) (.int .i64 ((rd_T73 l0_1 x24_3).f1))) (fun _ hk => trivial)⟩
           have n1_ : Aside0 (((w29.setCell ⟨gb419, 0, none⟩ (.int .i64 ((rd_T73 l0_1 x24_3).f0))).setCell ⟨gb419, 1, none⟩ (.int .i64 ((rd_T73 l0_1 x24_3).f1))).heap[gb411]? = some (.cells #[.int .i64 a0_0, .slice (some ad418) l0_1.length c0_1] 34 (0, 0))) := ⟨bkn BK411⟩
           have n2_ : Aside0 (((w29.setCell ⟨gb419, 0, none⟩ (.int .i64 ((rd_T73 l0_1 x24_3).f0))).setCell ⟨gb419, 1, none⟩ (.int .i64 ((rd_T73 l0_1 x24_3).f1))).heap[gb419]? = some (.cells #[.int .i64 ((rd_T73 l0_1 x24_3).f0), .int .i64 ((rd_T73 l0_1 x24_3).f1)] 73 (0, 0))) := ⟨by (with_reducible repeat (first | refine blk_drewN ?_ _ | refine blk_drew ?_ | refine blk_alloc ?_ _)); refine blk_put (cs := #[.int .i64 ((rd_T73 l0_1 x24_3).f0), .int .i64 0]) ?_ 1 _ rfl; (with_reducible repeat (first | refine blk_drewN ?_ _ | refine blk_drew ?_ | refine blk_alloc ?_ _)); refine blk_put (cs := #[.int .i64 0, .int .i64 0]) ?_ 0 _ rfl; (with_reducible repeat (first | refine blk_drewN ?_ _ | refine blk_drew ?_ | refine blk_alloc ?_ _)); exact BK419.out⟩
           have n3_ : Aside0 (Below w.heap.size w ((w29.setCell ⟨gb419, 0, none⟩ (.int .i64 ((rd_T73 l0_1 x24_3).f0))).setCell ⟨gb419, 1, none⟩ (.int .i64 ((rd_T73 l0_1 x24_3).f1)))) := ⟨bn HB⟩
           (try clear HO_3)
           (try clear BK411)
           (try clear BK419)
           (try clear HB)
           generalize ((w29.setCell ⟨gb419, 0, none⟩ (.int .i64 ((rd_T73 l0_1 x24_3).f0))).setCell ⟨gb419, 1, none⟩ (.int .i64 ((rd_T73 l0_1 x24_3).f1))) = w32 at n0_ n1_ n2_ n3_ ⊢
           have HO_3 := n0_
           have BK411 := n1_
           have BK419 := n2_
           have HB := n3_
           clear n0_ n1_ n2_ n3_
           replace HO_3 := am (Kd.R_drew HO_3.out)
           replace BK411 := am (blk_drew BK411.out)
           replace BK419 := am (blk_drew BK419.out)
           replace HB := am (below_drew1 HB.out)
           obtain ⟨Ao34, co34, eo34⟩ := Kd.R_slice HO_3.out
           (first | subst eo34 | (injection eo34 with f1_ f2_ f3_; have f4_ := f1_.symm; have f5_ := f3_.symm; clear f1_ f2_ f3_; subst f4_; subst f5_))
           have p420 : 0 ≤ (((rd_T73 l0_1 x24_3).f0) : Int) := oa
           have q420 : ((rd_T73 l0_1 x24_3).f0) < (x3_3.length : Int) := oa
           obtain ⟨ad420, e420, hx420_0⟩ := Kd.at_int (Kd.R_reads' HO_3.out).2.2 ((rd_T73 l0_1 x24_3).f0) p420 q420
           cases e420
           replace p420 := eq_true p420
           replace q420 := eq_true q420
           have p421 : 0 ≤ (((rd_T73 l0_1 x24_3).f1) : Int) := oa
           have q421 : ((rd_T73 l0_1 x24_3).f1) < (x3_3.length : Int) := oa
           obtain ⟨ad421, e421, hx421_0⟩ := Kd.at_int (Kd.R_reads' HO_3.out).2.2 ((rd_T73 l0_1 x24_3).f1) p421 q421
           obtain rfl : ad420 = ad421 := (by injection e421)
           replace p421 := eq_true p421
           replace q421 := eq_true q421
           refine start_ (n := 12) (S := fun w' => w'.cell? ⟨gb419, 0, none⟩ = some (.int .i64 ((rd_T73 l0_1 x24_3).f0)) ∧ w'.cell? ⟨gb419, 1, none⟩ = some (.int .i64 ((rd_T73 l0_1 x24_3).f1)) ∧ w'.cell? (ad420.add (((rd_T73 l0_1 x24_3).f0)).toNat) = some (.int .i64 (rd x3_3 ((rd_T73 l0_1 x24_3).f0))) ∧ w'.cell? (ad420.add (((rd_T73 l0_1 x24_3).f1)).toNat) = some (.int .i64 (rd x3_3 ((rd_T73 l0_1 x24_3).f1)))) (ds := []) #[false, false, false, false, false, false, false, false, false, false, false, false] (by kernel_rfl) rfl rfl ⟨(bc BK419 0), (bc BK419 1), hx420_0, hx421_0⟩ (fun hHeld => ?_); refine with_tabW impl_Net_parts.tab13 impl_Net_parts.bits13 (fun HT_ HW_ => ?_)
           generalize w32.drew = w33 at HO_3 BK411 BK419 HB hx420_0 hx421_0 hHeld ⊢
           refine pz_ 0 (some 28) HT_ ?_
           refine pz_ 1 (some 29) HT_ ?_
           refine pz_ 5 (some 33) HT_ ?_
           refine pz_ 6 (some 34) HT_ ?_
           refine tz_ 2 (some 30) HT_ HW_ hHeld ?_
           refine pz_ 3 (some 31) HT_ ?_
           refine tz_ 4 (some 32) HT_ HW_ hHeld ?_
           refine tz_ 7 (some 35) HT_ HW_ hHeld ?_
           refine pz_ 8 (some 36) HT_ ?_
           refine tz_ 9 (some 37) HT_ HW_ hHeld ?_
           refine pz_ 10 (some 38) HT_ ?_
           refine pz_ 11 (some 8) HT_ ?_
           refine done_ (done_of HT_.out (by kernel_rfl)) ?_
           try go_wp2
           replace HO_3 := am (Kd.R_drew HO_3.out)
           replace BK411 := am (blk_drew BK411.out)
           replace BK419 := am (blk_drew BK419.out)
           replace HB := am (below_drew1 HB.out)
           have p422 : 0 ≤ (((rd_T73 l0_1 x24_3).f0) : Int) := oa
           have q422 : ((rd_T73 l0_1 x24_3).f0) < (x3_3.length : Int) := oa
           obtain ⟨ad422, e422, hx422_0⟩ := Kd.at_int (Kd.R_reads' HO_3.out).2.2 ((rd_T73 l0_1 x24_3).f0) p422 q422
           obtain rfl : ad420 = ad422 := (by injection e422)
           replace p422 := eq_true p422
           replace q422 := eq_true q422
           have p423 : 0 ≤ (((rd_T73 l0_1 x24_3).f1) : Int) := oa
           have q423 : ((rd_T73 l0_1 x24_3).f1) < (x3_3.length : Int) := oa
           obtain ⟨ad423, e423, hx423_0⟩ := Kd.at_int (Kd.R_reads' HO_3.out).2.2 ((rd_T73 l0_1 x24_3).f1) p423 q423
           obtain rfl : ad420 = ad423 := (by injection e423)
           replace p423 := eq_true p423
           replace q423 := eq_true q423
           refine start_ (n := 11) (S := fun w' => w'.cell? ⟨gb419, 0, none⟩ = some (.int .i64 ((rd_T73 l0_1 x24_3).f0)) ∧ w'.cell? ⟨gb419, 1, none⟩ = some (.int .i64 ((rd_T73 l0_1 x24_3).f1)) ∧ w'.cell? (ad420.add (((rd_T73 l0_1 x24_3).f0)).toNat) = some (.int .i64 (rd x3_3 ((rd_T73 l0_1 x24_3).f0))) ∧ w'.cell? (ad420.add (((rd_T73 l0_1 x24_3).f1)).toNat) = some (.int .i64 (rd x3_3 ((rd_T73 l0_1 x24_3).f1)))) (ds := []) #[false, false, false, false, false, false, false, false, false, false, false] (by kernel_rfl) rfl rfl ⟨(bc BK419 0), (bc BK419 1), hx422_0, hx423_0⟩ (fun hHeld => ?_); refine with_tabW impl_Net_parts.tab14 impl_Net_parts.bits14 (fun HT_ HW_ => ?_)
           generalize w33.drew = w35 at HO_3 BK411 BK419 HB hx422_0 hx423_0 hHeld ⊢
           refine pz_ 0 (some 39) HT_ ?_
           refine pz_ 1 (some 40) HT_ ?_
           refine pz_ 5 (some 44) HT_ ?_
           refine pz_ 6 (some 45) HT_ ?_
           refine tz_ 2 (some 41) HT_ HW_ hHeld ?_
           refine pz_ 3 (some 42) HT_ ?_
           refine tz_ 4 (some 43) HT_ HW_ hHeld ?_
           refine tz_ 7 (some 46) HT_ HW_ hHeld ?_
           refine pz_ 8 (some 47) HT_ ?_
           refine tz_ 9 (some 48) HT_ HW_ hHeld ?_
           refine pz_ 10 (some 49) HT_ ?_
           refine done_ (done_of HT_.out (by kernel_rfl)) ?_
           try go_wp2
           replace HO_3 := am (Kd.R_drew HO_3.out)
           replace BK411 := am (blk_drew BK411.out)
           replace BK419 := am (blk_drew BK419.out)
           replace HB := am (below_drew1 HB.out)
           have p27 : 0 ≤ (((rd_T73 l0_1 x24_3).f0) : Int) := oa
           have q27 : (((rd_T73 l0_1 x24_3).f0) : Int) < ((x3_3.length : Int) : Int) := oa
           obtain ⟨go27, co27, eo27, gb27, gl27, cl27, HG27⟩ := Kd.R_form HO_3.out (by omega)
           (first | cases eo27 | (injection eo27 with ea_ en_ ec_; (first | subst ea_ | (injection ea_ with ea_; subst ea_)); subst ec_; clear en_))
           have GB27 := am gb27
           have GG27 := am HG27
           clear gb27 gl27 HG27
           (first | simp only [add_plain] at hx420_0 | skip)
           (first | simp only [add_plain] at hx421_0 | skip)
           (first | simp only [add_plain] at hx422_0 | skip)
           (first | simp only [add_plain] at hx423_0 | skip)
           obtain ⟨hx27_0, hf27_0⟩ := Kd.R_celln 0 HO_3.out (((rd_T73 l0_1 x24_3).f0) : Int) p27 q27
           replace p27 := eq_true p27
           replace q27 := eq_true q27
           have HP37 := Kd.R_putn HO_3.out (((rd_T73 l0_1 x24_3).f0) : Int) ji18
           rw [← Ny424.out] at HP37
           have HQ37 := am HP37
           clear HP37
           have p28 : 0 ≤ (((rd_T73 l0_1 x24_3).f1) : Int) := oa
           have q28 : (((rd_T73 l0_1 x24_3).f1) : Int) < ((x3_3.length : Int) : Int) := oa
           obtain ⟨hx28_0, hf28_0⟩ := Kd.R_celln 0 HQ37.out (((rd_T73 l0_1 x24_3).f1) : Int) p28 q28
           replace p28 := eq_true p28
           replace q28 := eq_true q28
           have HP38 := Kd.R_putn HQ37.out (((rd_T73 l0_1 x24_3).f1) : Int) ji18
           rw [← Ny425.out] at HP38
           have HQ38 := am HP38
           clear HP38
           refine start_ (n := 12) (S := fun w' => w'.cell? ⟨gb419, 0, none⟩ = some (.int .i64 ((rd_T73 l0_1 x24_3).f0)) ∧ w'.cell? ⟨gb419, 1, none⟩ = some (.int .i64 ((rd_T73 l0_1 x24_3).f1))) (ds := [11]) #[false, false, false, false, false, false, false, false, false, false, false, false] (by kernel_rfl) rfl rfl ⟨(bc BK419 0), (bc BK419 1)⟩ (fun hHeld => ?_); refine with_tabW impl_Net_parts.tab15 impl_Net_parts.bits15 (fun HT_ HW_ => ?_)
           generalize w35.drew = w36 at HO_3 BK411 BK419 HB GG27 HQ37 HQ38 hf27_0 hf28_0 hx27_0 hx28_0 hx420_0 hx421_0 hx422_0 hx423_0 hHeld ⊢
           refine pz_ 0 (some 50) HT_ ?_
           refine pz_ 1 (some 51) HT_ ?_
           refine pz_ 3 (some 53) HT_ ?_
           refine pz_ 4 (some 54) HT_ ?_
           refine pz_ 6 (some 56) HT_ ?_
           refine pz_ 7 (some 57) HT_ ?_
           refine tz_ 2 (some 52) HT_ HW_ hHeld ?_
           refine pz_ 8 (some 58) HT_ ?_
           refine tz_ 5 (some 55) HT_ HW_ hHeld ?_
           refine one_ (i := 9) (N := none) #[true, true, true, true, true, true, true, true, true, true, false, false] rfl rfl (one_of HT_.out (by kernel_rfl)) (by decide) (fun K hK => ?_)
           refine skip_ (w1 := ?_) (by rfl) rfl ?_ ?_
           rotate_left
           ·go_simp
            rfl
           refine hK.out _ _ ⟨((cell_far (by have h_ := Kd.R_ne HO_3.out BK419.out (by decide); intro e_; exact h_ ((congrArg some e_).trans rfl)) _).trans (hHeld.1)), ((cell_far (by have h_ := Kd.R_ne HO_3.out BK419.out (by decide); intro e_; exact h_ ((congrArg some e_).trans rfl)) _).trans (hHeld.2))⟩ (fun hHeld => ?_)
           clear hK K
           refine pz_ 10 (some 59) HT_ ?_
           refine last_ (i := 11) (N := none) #[true, true, true, true, true, true, true, true, true, true, true, true] rfl rfl (one_of HT_.out (by kernel_rfl)) (by decide) (fun K hK => ?_)
           refine skip_ (w1 := ?_) (by rfl) rfl ?_ ?_
           rotate_left
           ·go_simp
            rfl
           refine hK.out _ _ ?_
           clear hK K
           refine done_ (done_of HT_.out (by kernel_rfl)) ?_
           try go_wp2
           go_roundg k3
           case measure => have := HK1.out; have := HK2.out; have := HK3.out; omega
           case rel => exact ⟨(y425), (true), (wrap64 (x24_3 + 1)), (by first | rfl | (simp; done) | (simp [*]; done)), (by first | rfl | (simp; done) | (simp [*]; done)), H', ⟨by have := HK1.out; have := HK2.out; have := HK3.out; omega⟩, ⟨by (with_reducible repeat (first | apply Kd.R_alloc | apply Kd.R_drewN | apply Kd.R_drew)); exact HQ38.out⟩, ⟨by (with_reducible repeat (first | refine blk_drewN ?_ _ | refine blk_drew ?_ | refine blk_alloc ?_ _)); refine blk_far ?_ (by have h_ := Kd.R_ne HO_3.out BK411.out (by decide); intro e_; exact h_ (by rw [e_]; rfl)) _; (with_reducible repeat (first | refine blk_drewN ?_ _ | refine blk_drew ?_ | refine blk_alloc ?_ _)); refine blk_far ?_ (by have h_ := Kd.R_ne HO_3.out BK411.out (by decide); intro e_; exact h_ (by rw [e_]; rfl)) _; (with_reducible repeat (first | refine blk_drewN ?_ _ | refine blk_drew ?_ | refine blk_alloc ?_ _)); exact BK411.out⟩, ⟨by repeat (first | (with_reducible first | exact HB.out | apply below_alloc | apply pw_below_drewN | apply below_drew1 | refine below_set ?_ GB27.out | refine below_set ?_ GB27.out | refine below_set ?_ GE411.out | refine below_set ?_ GE419.out) | exact HB.out)⟩⟩
         ·rw [if_neg c11] at H
          have c11b0 := decide_eq_false c11
          clear c11
          have H' := am H
          clear H
          go_wp2
          go_roundg k3
          case measure => have := HK1.out; have := HK2.out; have := HK3.out; omega
          case rel => exact ⟨(x3_3), (x5_3), (by first | rfl | (simp; done) | (simp [*]; done)), H', ⟨by have := HK1.out; have := HK2.out; have := HK3.out; omega⟩, ⟨onR HO_3⟩, ⟨bkn BK411⟩, ⟨bn HB⟩⟩
      ·replace c9 := Bool.eq_false_iff.mpr c9
       subst c9
       rw [if_neg (show ¬ (false = true) by decide)] at H
       obtain rfl := Option.some.inj H
       go_wp2
       go_ret
       exact ⟨_, by first | rfl | (simp [errW_none, errW_some] <;> rfl) | (simp [*, errW_none, errW_some] <;> rfl), onR HO_3, bn HB⟩

end Go.Proofs.Ytdlnnjgjfngccaa.F
