-- Written by oprint.py (wip/tools) over the kit's print program, for this seat.
import Derived.Test.YtdlnnjgjfngccaaF0
import Derived.Test.YtdlnnjgjfngccaaF41
import Derived.Test.YtdlnnjgjfngccaaF42
namespace Go.Proofs.Ytdlnnjgjfngccaa.F
open Go.RowKit Go.Proofs.YtdlnnjgjfngccaaW.PrintWords Go.Proofs.YtdlnnjgjfngccaaW.PrintLast Go.Proofs.YtdlnnjgjfngccaaW.PrintMore
attribute [local go_sem] max2_int min2_int max_two min_two max_three min_three max_four min_four   -- for this text's walks alone
set_option linter.unusedVariables false
set_option linter.unusedSimpArgs false

/-! ### spec_l71Net: function 137 -/
mutual
def spec_l71Net.j2 : Nat → List Int → Int → Int → List (S73) → Option (Int × (List (S73)) × Int)
 | 0, _, _, _, _ => none
 | k + 1, x1000, x1001, x602000, x602001 => (spec_l6Rd_pick.f k x1000 x1001 13).bind fun bt616 => (spec_l71Net.l2 k bt616.1 x1000 bt616.2 x602000 x602001)
def spec_l71Net.l2 : Nat → Int → List Int → Int → Int → List (S73) → Option (Int × (List (S73)) × Int)
 | 0, _, _, _, _, _ => none
 | k + 1, x6, x1000, x1001, x602000, x602001 => if x6 > 0 then (spec_l71Net.j4 k x6 (decide (x602000 > 1)) x1000 x1001 x602000 x602001) else (spec_l71Net.j4 k x6 false x1000 x1001 x602000 x602001)
def spec_l71Net.j4 : Nat → Int → Bool → List Int → Int → Int → List (S73) → Option (Int × (List (S73)) × Int)
 | 0, _, _, _, _, _, _ => none
 | k + 1, x6, x64, x1000, x1001, x602000, x602001 => if x64 = true then ((spec_l6Rd_pick.f k x1000 x1001 x602000).bind fun bt618 => ((spec_l6Rd_pick.f k x1000 bt618.2 x602000).bind fun bt620 => ((spec_NetAdd.f k x602000 x602001 bt618.1 bt620.1).bind fun bt622 => (if bt622.2.2 = true then (spec_l71Net.l2 k (wrap64 (x6 - 1)) x1000 bt620.2 bt622.1 bt622.2.1) else (spec_l71Net.l2 k (wrap64 (x6 - 1)) x1000 bt620.2 x602000 x602001))))) else (some (x602000, x602001, x1001))
def spec_l71Net.l0 : Nat → Int → List Int → Int → Int → List (S73) → Option (Int × (List (S73)) × Int)
 | 0, _, _, _, _, _ => none
 | k + 1, x4, x1000, x1001, x602000, x602001 => if x4 < x602000 then ((spec_l6Rd_pick.f k x1000 x1001 x4).bind fun bt604 => ((spec_NetAdd.f k x602000 x602001 x4 bt604.1).bind fun bt606 => (spec_l71Net.l0 k (wrap64 (x4 + 1)) x1000 bt604.2 bt606.1 bt606.2.1))) else (spec_l71Net.j2 k x1000 x1001 x602000 x602001)
def spec_l71Net.l1 : Nat → Int → List Int → Int → Int → List (S73) → Option (Int × (List (S73)) × Int)
 | 0, _, _, _, _, _ => none
 | k + 1, x5, x1000, x1001, x602000, x602001 => if x5 < x602000 then (if x602000 > 2 then (if x602000 = 0 then (none) else ((spec_NetAdd.f k x602000 x602001 x5 (Int.tmod (wrap64 (x5 + 1)) x602000)).bind fun bt611 => (spec_l71Net.l1 k (wrap64 (x5 + 1)) x1000 x1001 bt611.1 bt611.2.1))) else (spec_l71Net.j2 k x1000 x1001 x602000 x602001)) else (spec_l71Net.j2 k x1000 x1001 x602000 x602001)
end
def spec_l71Net.f (k : Nat) (s0_0 : List Int) (s0_1 : Int) : Option (Int × (List (S73)) × Int) := (spec_l6Rd_pick.f k s0_0 s0_1 8).bind fun bt599 => ((spec_l6Rd_pick.f k s0_0 bt599.2 6).bind fun bt602 => (if bt602.1 = 0 then (spec_l71Net.l0 k 1 s0_0 bt602.2 (wrap64 (1 + bt599.1)) ([] : List (S73))) else (if bt602.1 = 1 then (spec_l71Net.l1 k 0 s0_0 bt602.2 (wrap64 (1 + bt599.1)) ([] : List (S73))) else (spec_l71Net.j2 k s0_0 bt602.2 (wrap64 (1 + bt599.1)) ([] : List (S73))))))
theorem spec_l71Net.mono_l : ∀ k, (∀ y0 y1 y2 y3, LeO (spec_l71Net.j2 k y0 y1 y2 y3) (spec_l71Net.j2 (k + 1) y0 y1 y2 y3)) ∧ (∀ y0 y1 y2 y3 y4, LeO (spec_l71Net.l2 k y0 y1 y2 y3 y4) (spec_l71Net.l2 (k + 1) y0 y1 y2 y3 y4)) ∧ (∀ y0 y1 y2 y3 y4 y5, LeO (spec_l71Net.j4 k y0 y1 y2 y3 y4 y5) (spec_l71Net.j4 (k + 1) y0 y1 y2 y3 y4 y5)) ∧ (∀ y0 y1 y2 y3 y4, LeO (spec_l71Net.l0 k y0 y1 y2 y3 y4) (spec_l71Net.l0 (k + 1) y0 y1 y2 y3 y4)) ∧ (∀ y0 y1 y2 y3 y4, LeO (spec_l71Net.l1 k y0 y1 y2 y3 y4) (spec_l71Net.l1 (k + 1) y0 y1 y2 y3 y4))
 | 0 => ⟨fun _ _ _ _ r h => by simp [spec_l71Net.j2] at h, fun _ _ _ _ _ r h => by simp [spec_l71Net.l2] at h, fun _ _ _ _ _ _ r h => by simp [spec_l71Net.j4] at h, fun _ _ _ _ _ r h => by simp [spec_l71Net.l0] at h, fun _ _ _ _ _ r h => by simp [spec_l71Net.l1] at h⟩
 | k + 1 => by
  obtain ⟨ih0, ih1, ih2, ih3, ih4⟩ := spec_l71Net.mono_l k
  refine ⟨?_, ?_, ?_, ?_, ?_⟩
  ·intro y0 y1 y2 y3
   unfold spec_l71Net.j2
   have m0_ := @spec_NetAdd.mono
   have m1_ := @spec_l6Rd_pick.mono
   exact mo_
  ·intro y0 y1 y2 y3 y4
   unfold spec_l71Net.l2
   have m0_ := @spec_NetAdd.mono
   have m1_ := @spec_l6Rd_pick.mono
   exact mo_
  ·intro y0 y1 y2 y3 y4 y5
   unfold spec_l71Net.j4
   have m0_ := @spec_NetAdd.mono
   have m1_ := @spec_l6Rd_pick.mono
   exact mo_
  ·intro y0 y1 y2 y3 y4
   unfold spec_l71Net.l0
   have m0_ := @spec_NetAdd.mono
   have m1_ := @spec_l6Rd_pick.mono
   exact mo_
  ·intro y0 y1 y2 y3 y4
   unfold spec_l71Net.l1
   have m0_ := @spec_NetAdd.mono
   have m1_ := @spec_l6Rd_pick.mono
   exact mo_
theorem spec_l71Net.mono : ∀ a0 a1 k, LeO (spec_l71Net.f k a0 a1) (spec_l71Net.f (k + 1) a0 a1) := by
 intro a0 a1 k
 obtain ⟨ih0, ih1, ih2, ih3, ih4⟩ := spec_l71Net.mono_l k
 unfold spec_l71Net.f
 have m0_ := @spec_NetAdd.mono
 have m1_ := @spec_l6Rd_pick.mono
 exact mo_
def spec_l71Net.T7 : Bool × List (List Nat × List Nat) := (true, [([], []), ([], []), ([], []), ([], []), ([2, 3], [2, 3]), ([0, 1, 4, 4], [0, 1, 4]), ([5], [5]), ([6], [6]), ([6], [6]), ([7, 5, 0, 1, 2, 3, 4, 5, 6, 7], [7])])
def spec_l71Net.B7 : List Nat := [0, 0, 0, 0, 12, 31, 63, 127, 127, 255]
theorem spec_l71Net.tab7 : rtab .any (opsOf Try.f137 7) = spec_l71Net.T7 := by kernel_rfl
theorem spec_l71Net.bits7 : waitsOk spec_l71Net.T7.2 spec_l71Net.B7 = true := by kernel_rfl
def spec_l71Net.T12 : Bool × List (List Nat × List Nat) := (true, [([], []), ([], []), ([], []), ([2], [2]), ([], []), ([4], [4]), ([3, 5], [3, 5]), ([0, 1, 6], [0, 1, 6]), ([7], [7]), ([8], [8]), ([8], [8]), ([9, 7, 0, 1, 2, 3, 4, 5, 6, 7, 8, 9], [9])])
def spec_l71Net.B12 : List Nat := [0, 0, 0, 4, 0, 16, 60, 127, 255, 511, 511, 1023]
theorem spec_l71Net.tab12 : rtab .any (opsOf Try.f137 12) = spec_l71Net.T12 := by kernel_rfl
theorem spec_l71Net.bits12 : waitsOk spec_l71Net.T12.2 spec_l71Net.B12 = true := by kernel_rfl
def spec_l71Net.T16 : Bool × List (List Nat × List Nat) := (true, [([], []), ([], []), ([], []), ([2], [2]), ([1, 3], [1, 3]), ([], []), ([], []), ([6], [6]), ([5, 7, 4], [5, 7]), ([0, 4, 8, 8], [0, 4, 8]), ([9], [9]), ([10], [10]), ([10], [10]), ([], []), ([13, 11, 9, 0, 1, 2, 3, 4, 5, 6, 7, 8, 9, 10, 11, 13], [11, 13]), ([12, 14, 0, 1, 2, 3, 4, 5, 6, 7, 8, 9, 10, 11, 12, 13, 14], [12])])
def spec_l71Net.B16 : List Nat := [0, 0, 0, 4, 14, 0, 0, 64, 254, 511, 1023, 2047, 2047, 0, 12287, 32767]
theorem spec_l71Net.tab16 : rtab .any (opsOf Try.f137 16) = spec_l71Net.T16 := by kernel_rfl
theorem spec_l71Net.bits16 : waitsOk spec_l71Net.T16.2 spec_l71Net.B16 = true := by kernel_rfl
set_option maxHeartbeats 8000000 in
set_option maxRecDepth 100000 in
theorem spec_l71Net.calls (k : Nat) (g : Nat) (s0_0 : List Int) (s0_1 : Int) (r1 : Int) (r2 : List (S73)) (r3 : Int) (w0 w : World) (hI : IsS120 w0 w g s0_0 s0_1) (hB : Below w0.heap.size w0 w) (h : spec_l71Net.f k s0_0 s0_1 = some (r1, r2, r3)) :
  Calls Try.prog 137 #[.pointer (some ⟨g, 0, none⟩)] w fun e w' => ∃ v1_ : Value, e = .returned (.agg #[.int .i64 r1, v1_]) ∧ Kd.R k73 73 w' w.heap.size (fun _ => True) v1_ r2 ∧ IsS120 w0 w' g s0_0 r3 ∧ Below w0.heap.size w0 w' ∧ KeepBut w w' g none := by
 have hu34 := Try.underlying34
 have GEs_ := am (IsS120.ge hI)
 have HI0 := am hI
 have HK := am (KeepBut.refl w g none)
 have HL := am hB.size
 clear hI
 have HW0 := am hB.size
 have HB := am hB
 clear hB
 have H : ((spec_l6Rd_pick.f k s0_0 s0_1 8).bind fun bt599 => ((spec_l6Rd_pick.f k s0_0 bt599.2 6).bind fun bt602 => (if bt602.1 = 0 then (spec_l71Net.l0 k 1 s0_0 bt602.2 (wrap64 (1 + bt599.1)) ([] : List (S73))) else (if bt602.1 = 1 then (spec_l71Net.l1 k 0 s0_0 bt602.2 (wrap64 (1 + bt599.1)) ([] : List (S73))) else (spec_l71Net.j2 k s0_0 bt602.2 (wrap64 (1 + bt599.1)) ([] : List (S73))))))) = some (r1, r2, r3) := h
 clear h
 replace H := Option.bind_eq_some_iff.mp H
 obtain ⟨⟨t599, t600⟩, A20, H⟩ := H
 (try dsimp only at H)
 have A2 := am A20
 clear A20
 replace H := Option.bind_eq_some_iff.mp H
 obtain ⟨⟨t602, t603⟩, A30, H⟩ := H
 (try dsimp only at H)
 have A3 := am A30
 clear A30
 have HC4 := am H
 clear H
 go_enter Try.func137, Try.ntmps137
 go_upto_block 0 with (first | ((with_reducible refine gate_dst (N := 2) rfl ?_); refine be_ 2 #[.int .i64 0, .slice none 0 0] 34 ?_; intro gb598 hg w5 hbox hb; replace HB := bs HB hb; have BK598 := am hbox; have GW598 := am (gk_ hg HK); have GE598 := am (Nat.le_trans HW0.out (gk_ hg HK) : w0.heap.size ≤ gb598); replace HK := am (KeepBut.trans (kn HK) (KeepBut.of_below hb g none) (.inl rfl)); have NB0_598 := am ((by rw [hg]; exact Nat.ne_of_lt (IsS120.lt (show IsS120 w0 _ g s0_0 s0_1 from IsS120.now)) : g ≠ gb598)); have NB598_0 := am ((by rw [hg]; exact Nat.ne_of_gt (IsS120.lt (show IsS120 w0 _ g s0_0 s0_1 from IsS120.now)) : gb598 ≠ g)); replace HI0 := am (IsS120.below (IsS120.now) hb); clear hb hbox hg) | ((with_reducible refine gate_callee (f := 126) rfl ?_); refine gl_ (some 10) Try.func126 #[.pointer (some ⟨g, 0, none⟩), .int .i64 8] ?_; (with_reducible refine (spec_l6Rd_pick.calls k g s0_0 s0_1 8 t599 t600 w0 _ ?side1 ?side2 A2.out).mono ?_); (case side1 => exact IsS120.now); (case side2 => exact bn HB); rintro e w6 ⟨rfl, hi, hb, hk⟩; refine ⟨_, rfl, ?_⟩; replace BK598 := am (KeepBut.blk hk (bkn BK598) NB598_0.out (by simp)); replace HK := am (KeepBut.trans (kn HK) hk (.inl rfl)); replace HB := am hb; replace HI0 := am hi; (try clear hb); (try clear hk); (try clear hi)) | ((with_reducible refine gate_dst (N := 3) rfl ?_); refine be_ 3 #[.int .i64 0, .slice none 0 0] 34 ?_; intro gb601 hg w7 hbox hb; replace HB := bs HB hb; have BK601 := am hbox; have GW601 := am (gk_ hg HK); have GE601 := am (Nat.le_trans HW0.out (gk_ hg HK) : w0.heap.size ≤ gb601); replace HK := am (KeepBut.trans (kn HK) (KeepBut.of_below hb g none) (.inl rfl)); obtain ⟨NB598_601, NB601_598⟩ := nb_ hg BK598; replace BK598 := bb BK598 hb; have NB0_601 := am ((by rw [hg]; exact Nat.ne_of_lt (IsS120.lt (show IsS120 w0 _ g s0_0 t600 from IsS120.now)) : g ≠ gb601)); have NB601_0 := am ((by rw [hg]; exact Nat.ne_of_gt (IsS120.lt (show IsS120 w0 _ g s0_0 t600 from IsS120.now)) : gb601 ≠ g)); replace HI0 := am (IsS120.below (IsS120.now) hb); clear hb hbox hg; obtain ⟨hnb8, hnc8⟩ := n2 NB601_598 NB598_601; obtain ⟨hnb9, hnc9⟩ := n2 NB601_0 NB0_601; obtain ⟨hcz10_0, hcz10_1, hfz10_0, hfz10_1⟩ := c2 BK601) | ((with_reducible refine gate_callee (f := 126) rfl ?_); refine gl_ (some 14) Try.func126 #[.pointer (some ⟨g, 0, none⟩), .int .i64 6] ?_; (with_reducible refine (spec_l6Rd_pick.calls k g s0_0 t600 6 t602 t603 w0 _ ?side1 ?side2 A3.out).mono ?_); (case side1 => exact IsS120.now); (case side2 => exact bn HB); rintro e w11 ⟨rfl, hi, hb, hk⟩; refine ⟨_, rfl, ?_⟩; replace BK598 := am (KeepBut.blk hk (bkn BK598) NB598_0.out (by simp)); replace BK601 := am (KeepBut.blk hk (g' := gb601) (o := .cells #[.int .i64 (wrap64 (1 + t599)), .slice none 0 0] 34 (0, 0)) (by (with_reducible repeat (first | refine blk_drewN ?_ _ | refine blk_drew ?_ | refine blk_alloc ?_ _)); refine blk_put (cs := #[.int .i64 (wrap64 (1 + t599)), .slice none 0 0]) ?_ 1 _ rfl; (with_reducible repeat (first | refine blk_drewN ?_ _ | refine blk_drew ?_ | refine blk_alloc ?_ _)); refine blk_put (cs := #[.int .i64 0, .slice none 0 0]) ?_ 0 _ rfl; (with_reducible repeat (first | refine blk_drewN ?_ _ | refine blk_drew ?_ | refine blk_alloc ?_ _)); exact BK601.out) NB601_0.out (by simp)); replace HK := am (KeepBut.trans (kn HK) hk (.inl rfl)); replace HB := am hb; replace HI0 := am hi; (try clear hb); (try clear hk); (try clear hi)))
 (try simp only [Act.put, List.setIfInBounds_toArray, List.set_cons_zero, List.set_cons_succ])
 go_cut [] (fun wc => ∃ (kq : Nat) (x1001_3 : Int) (x602000_3 : Int) (x602001_3 : List (S73)) (u602001 : Value), Aside0 (spec_l71Net.j2 kq s0_0 x1001_3 x602000_3 x602001_3 = some (r1, r2, r3)) ∧ Aside0 (kq ≤ k) ∧ Aside0 (Kd.R k73 73 wc w.heap.size (fun _ => True) u602001 x602001_3) ∧ Aside0 (wc.heap[gb598]? = some (.cells #[.int .i64 0, (.slice none 0 0)] 34 (0, 0))) ∧ Aside0 (wc.heap[gb601]? = some (.cells #[.int .i64 x602000_3, u602001] 34 (0, 0))) ∧ Aside0 (IsS120 w0 wc g s0_0 x1001_3) ∧ Aside0 (KeepBut w wc g none) ∧ Aside0 (Below w0.heap.size w0 wc))
 case first =>
  have H := HC4.out
  clear HC4
  by_cases c12 : t602 = 0
  ·rw [if_pos c12] at H
   have c12b0 : (t602 == 0) = true := beq_iff_eq.mpr c12
   have c12b1 : (t602 != 0) = false := bne_eq_false_iff_eq.mpr c12
   clear c12
   (first | rw [c12b0] | (simp only [i64_w, i32_w]; rw [c12b0]) | skip)
   have H' := am H
   clear H
   go_wp2
   go_loopg [4] k (fun kq v4 w' => ∃ (x4_1 : Int) (x1001_1 : Int) (x602000_1 : Int) (x602001_1 : List (S73)) (u602001 : Value), v4 = .int .i64 x4_1 ∧ Aside0 (spec_l71Net.l0 kq x4_1 s0_0 x1001_1 x602000_1 x602001_1 = some (r1, r2, r3)) ∧ Aside0 (kq ≤ k) ∧ Aside0 (Kd.R k73 73 w' w.heap.size (fun _ => True) u602001 x602001_1) ∧ Aside0 (w'.heap[gb598]? = some (.cells #[.int .i64 0, (.slice none 0 0)] 34 (0, 0))) ∧ Aside0 (w'.heap[gb601]? = some (.cells #[.int .i64 x602000_1, u602001] 34 (0, 0))) ∧ Aside0 (IsS120 w0 w' g s0_0 x1001_1) ∧ Aside0 (KeepBut w w' g none) ∧ Aside0 (Below w0.heap.size w0 w'))
   case atStart => exact ⟨(1), (t603), (wrap64 (1 + t599)), (([] : List (S73))), (.slice none 0 0), (by first | rfl | (simp; done) | (simp [*]; done)), H', ⟨Nat.le_refl _⟩, ⟨by first | exact Kd.R_nil _ _ _ _ _ | exact Kd.N_nil _ _ _ _ _ | exact Kd.V_nil _ _ _ _ _ | exact Kd.Q_nil _ _ _ _ _ | exact Kd.S_nil _ _ _ _ _⟩, ⟨bkn BK598⟩, ⟨bkn BK601⟩, ⟨IsS120.now⟩, ⟨kn HK⟩, ⟨bn HB⟩⟩
   case round =>
    clear H'
    try clear c1
    try clear p2
    try clear p6
    try clear c8
    try clear c9
    try clear c12
    try clear c12b0
    try clear c12b1
    try clear hcz10_0 hcz10_1 hfz10_0 hfz10_1
    obtain ⟨x4_1, x1001_1, x602000_1, x602001_1, u602001, rfl, HA, HK1, HO_602001, BK598, BK601, HI0, HK, HB⟩ := hrel
    cases gk with
    | zero => exact absurd HA.out (by simp [spec_l71Net.l0])
    | succ k1 =>
     have H := HA.out
     clear HA
     simp only [spec_l71Net.l0] at H
     by_cases c13 : x4_1 < x602000_1
     ·rw [if_pos c13] at H
      have c13b0 := decide_eq_true c13
      clear c13
      replace H := Option.bind_eq_some_iff.mp H
      obtain ⟨⟨t604, t605⟩, A140, H⟩ := H
      (try dsimp only at H)
      have A14 := am A140
      clear A140
      replace H := Option.bind_eq_some_iff.mp H
      obtain ⟨⟨t606, t607, t610⟩, A150, H⟩ := H
      (try dsimp only at H)
      have A15 := am A150
      clear A150
      have H' := am H
      clear H
      obtain ⟨hnb16, hnc16⟩ := n2 NB601_598 NB598_601
      obtain ⟨hnb17, hnc17⟩ := n2 NB601_0 NB0_601
      obtain ⟨hcz18_0, hcz18_1, hfz18_0, hfz18_1⟩ := c2 BK601
      try go_wp2
      replace HO_602001 := am (Kd.R_drew HO_602001.out)
      replace BK598 := am (blk_drew BK598.out)
      replace BK601 := am (blk_drew BK601.out)
      replace HI0 := am (IsS120.drew HI0.out)
      replace HK := am (keep_drew HK.out)
      replace HB := am (below_drew1 HB.out)
      refine start_ (n := 10) (S := fun w' => w'.cell? ⟨gb601, 0, none⟩ = some (.int .i64 x602000_1) ∧ w'.cell? ⟨gb601, 1, none⟩ = some (u602001)) (ds := [9]) #[false, false, false, false, false, false, false, false, false, false] (by kernel_rfl) rfl rfl ⟨(bc BK601 0), (bc BK601 1)⟩ (fun hHeld => ?_); refine with_tabW spec_l71Net.tab7 spec_l71Net.bits7 (fun HT_ HW_ => ?_)
      generalize wr.drew = w19 at HO_602001 BK598 BK601 HI0 HK HB hHeld ⊢
      refine pz_ 1 (some 25) HT_ ?_
      refine pz_ 2 (some 26) HT_ ?_
      refine pz_ 3 (some 27) HT_ ?_
      refine tz_ 0 (some 24) HT_ HW_ hHeld ?_
      refine one_ (i := 4) (N := some 28) #[true, true, true, true, true, false, false, false, false, false] rfl rfl (one_of HT_.out (by kernel_rfl)) (by decide) (fun K hK => ?_)
      refine gg_ Try.func126 #[.pointer (some ⟨g, 0, none⟩), .int .i64 x4_1] ?_
      with_reducible refine (spec_l6Rd_pick.calls k1 g s0_0 x1001_1 x4_1 t604 t605 w0 _ ?side1 ?side2 A14.out).mono ?_
      (case side1 => exact IsS120.now)
      (case side2 => exact bn HB)
      rintro e w20 ⟨rfl, hi, hb, hk⟩
      refine ⟨_, rfl, ?_⟩
      replace HO_602001 := am (Kd.R_mono (Kd.R_keep (IsS120.apart (show IsS120 w0 _ g s0_0 x1001_1 from IsS120.now) (onR HO_602001) (by decide)) hk (fun _ h => h.2)) (fun _ h => h.1))
      replace BK598 := am (KeepBut.blk hk (bkn BK598) NB598_0.out (by simp))
      replace BK601 := am (KeepBut.blk hk (bkn BK601) NB601_0.out (by simp))
      replace HK := am (KeepBut.trans (kn HK) hk (.inl rfl))
      replace HB := am hb
      replace HI0 := am hi
      (try clear hb)
      (try clear hb2)
      (try clear hk)
      (try clear hi)
      obtain ⟨Ao21, co21, eo21⟩ := Kd.R_slice HO_602001.out
      (first | subst eo21 | (injection eo21 with f1_ f2_ f3_; have f4_ := f1_.symm; have f5_ := f3_.symm; clear f1_ f2_ f3_; subst f4_; subst f5_))
      refine hK.out _ _ ⟨(bc BK601 0), (bc BK601 1)⟩ (fun hHeld => ?_)
      clear hK K
      refine nz_ 28 ?_
      refine one_ (i := 5) (N := some 29) #[true, true, true, true, true, true, false, false, false, false] rfl rfl (one_of HT_.out (by kernel_rfl)) (by decide) (fun K hK => ?_)
      refine gg_ Try.func127 #[.agg #[.int .i64 x602000_1, .slice Ao21 x602001_1.length co21], .int .i64 x4_1, .int .i64 t604] ?_
      with_reducible refine (spec_NetAdd.calls k1 x602000_1 _ _ x602001_1 x4_1 t604 t606 t607 t610 _ ?side1 ?side2 A15.out).mono ?_
      (case side1 => exact (Kd.R_reads' (onR HO_602001)).2.2)
      (case side2 => exact (Kd.R_reads' HO_602001.out).2.1)
      rintro e w22 ⟨v608, rfl, ho0, hb⟩
      refine ⟨_, rfl, ?_⟩
      have HO609 := am (Kd.R_lower (Kd.R_new' ho0 (Kd.R_lt (onR HO_602001))) (keep_size (w := w) (g := g) (row := none) (kn HK)))
      replace HO_602001 := am (Kd.R_elder' (onR HO_602001) (Kd.R_base ho0) hb)
      replace BK598 := bb BK598 hb
      replace BK601 := bb BK601 hb
      replace HI0 := am (IsS120.below (IsS120.now) hb)
      replace HK := am (KeepBut.trans (kn HK) (KeepBut.of_below hb g none) (.inl rfl))
      replace HB := bs HB hb
      (try clear hb)
      (try clear hb2)
      (try clear hk)
      (try clear hi)
      (try clear ho0)
      obtain ⟨Ao24, co24, eo24⟩ := Kd.R_slice HO609.out
      (first | subst eo24 | (injection eo24 with f1_ f2_ f3_; have f4_ := f1_.symm; have f5_ := f3_.symm; clear f1_ f2_ f3_; subst f4_; subst f5_))
      refine hK.out _ _ ⟨(bc BK601 0), (bc BK601 1)⟩ (fun hHeld => ?_)
      clear hK K
      refine nz_ 29 ?_
      refine pz_ 6 (some 23) HT_ ?_
      refine pz_ 7 (some 30) HT_ ?_
      refine pz_ 8 (some 31) HT_ ?_
      refine last_ (i := 9) (N := none) #[true, true, true, true, true, true, true, true, true, true] rfl rfl (one_of HT_.out (by kernel_rfl)) (by decide) (fun K hK => ?_)
      have hs23 := bc BK601 0
      have hfs23 := blk_frozen BK601.out 0
      have hns23_0 := NB598_601.out
      have hms23_0 := NB601_598.out
      have hs25 := bc BK601 1
      have hfs25 := blk_frozen BK601.out 1
      have hns25_0 := NB598_601.out
      have hms25_0 := NB601_598.out
      refine skip_ (w1 := ?_) (by rfl) rfl ?_ ?_
      rotate_left
      ·go_simp
       rfl
      refine hK.out _ _ ?_
      clear hK K
      refine done_ (done_of HT_.out (by kernel_rfl)) ?_
      try go_wp2
      go_roundg k1
      case measure => have := HK1.out; omega
      case rel => exact ⟨(wrap64 (x4_1 + 1)), (t605), (t606), (t607), (.slice Ao24 t607.length co24), (by first | rfl | (simp; done) | (simp [*]; done)), H', ⟨by have := HK1.out; omega⟩, ⟨by (with_reducible repeat (first | apply Kd.R_alloc | apply Kd.R_drewN | apply Kd.R_drew)); exact Kd.R_mono (Kd.R_far (p := ⟨gb601, 1, none⟩) (Kd.R_far (p := ⟨gb601, 0, none⟩) (Kd.R_types HO609.out BK601.out (by decide)) (fun _ hk => hk.2) (.int .i64 t606)) (fun _ hk => hk.2) (.slice Ao24 t607.length co24)) (fun _ hk => trivial)⟩, ⟨bkn BK598⟩, ⟨by (with_reducible repeat (first | refine blk_drewN ?_ _ | refine blk_drew ?_ | refine blk_alloc ?_ _)); refine blk_put (cs := #[.int .i64 t606, .slice Ao21 x602001_1.length co21]) ?_ 1 _ rfl; (with_reducible repeat (first | refine blk_drewN ?_ _ | refine blk_drew ?_ | refine blk_alloc ?_ _)); refine blk_put (cs := #[.int .i64 x602000_1, .slice Ao21 x602001_1.length co21]) ?_ 0 _ rfl; (with_reducible repeat (first | refine blk_drewN ?_ _ | refine blk_drew ?_ | refine blk_alloc ?_ _)); exact BK601.out⟩, ⟨IsS120.now⟩, ⟨kn HK⟩, ⟨bn HB⟩⟩
     ·rw [if_neg c13] at H
      have c13b0 := decide_eq_false c13
      clear c13
      have H' := am H
      clear H
      obtain ⟨hnb26, hnc26⟩ := n2 NB601_598 NB598_601
      obtain ⟨hnb27, hnc27⟩ := n2 NB601_0 NB0_601
      obtain ⟨hcz28_0, hcz28_1, hfz28_0, hfz28_1⟩ := c2 BK601
      go_wp2
      go_meet
      case rel => exact ⟨_, (x1001_1), (x602000_1), (x602001_1), (u602001), H', ⟨by have := HK1.out; first | omega | exact Nat.le_refl _⟩, ⟨onR HO_602001⟩, ⟨bkn BK598⟩, ⟨bkn BK601⟩, ⟨IsS120.now⟩, ⟨kn HK⟩, ⟨bn HB⟩⟩
  ·rw [if_neg c12] at H
   have c12b0 : (t602 == 0) = false := beq_eq_false_iff_ne.mpr c12
   have c12b1 : (t602 != 0) = true := bne_iff_ne.mpr c12
   (first | rw [c12b0] | (simp only [i64_w, i32_w]; rw [c12b0]) | skip)
   by_cases c29 : t602 = 1
   ·rw [if_pos c29] at H
    have c29b0 : (t602 == 1) = true := beq_iff_eq.mpr c29
    have c29b1 : (t602 != 1) = false := bne_eq_false_iff_eq.mpr c29
    clear c29
    have H' := am H
    clear H
    go_wp2
    go_loopg [5] k (fun kq v5 w' => ∃ (x5_1 : Int) (x602000_1 : Int) (x602001_1 : List (S73)) (u602001 : Value), v5 = .int .i64 x5_1 ∧ Aside0 (spec_l71Net.l1 kq x5_1 s0_0 t603 x602000_1 x602001_1 = some (r1, r2, r3)) ∧ Aside0 (kq ≤ k) ∧ Aside0 (Kd.R k73 73 w' w.heap.size (fun _ => True) u602001 x602001_1) ∧ Aside0 (w'.heap[gb598]? = some (.cells #[.int .i64 0, (.slice none 0 0)] 34 (0, 0))) ∧ Aside0 (w'.heap[gb601]? = some (.cells #[.int .i64 x602000_1, u602001] 34 (0, 0))) ∧ Aside0 (IsS120 w0 w' g s0_0 t603) ∧ Aside0 (KeepBut w w' g none) ∧ Aside0 (Below w0.heap.size w0 w'))
    case atStart => exact ⟨(0), (wrap64 (1 + t599)), (([] : List (S73))), (.slice none 0 0), (by first | rfl | (simp; done) | (simp [*]; done)), H', ⟨Nat.le_refl _⟩, ⟨by first | exact Kd.R_nil _ _ _ _ _ | exact Kd.N_nil _ _ _ _ _ | exact Kd.V_nil _ _ _ _ _ | exact Kd.Q_nil _ _ _ _ _ | exact Kd.S_nil _ _ _ _ _⟩, ⟨bkn BK598⟩, ⟨bkn BK601⟩, ⟨IsS120.now⟩, ⟨kn HK⟩, ⟨bn HB⟩⟩
    case round =>
     clear H'
     try clear c1
     try clear c2
     try clear p2
     try clear p6
     try clear c8
     try clear c9
     try clear c12
     try clear c12b0
     try clear c12b1
     try clear c13
     try clear c13b0
     try clear c16
     try clear c17
     try clear c26
     try clear c27
     try clear c29
     try clear c29b0
     try clear c29b1
     try clear hcz10_0 hcz10_1 hfz10_0 hfz10_1
     try clear hcz18_0 hcz18_1 hfz18_0 hfz18_1
     try clear hcz28_0 hcz28_1 hfz28_0 hfz28_1
     try clear p2
     try clear p6
     obtain ⟨x5_1, x602000_1, x602001_1, u602001, rfl, HA, HK1, HO_602001, BK598, BK601, HI0, HK, HB⟩ := hrel
     cases gk with
     | zero => exact absurd HA.out (by simp [spec_l71Net.l1])
     | succ k1 =>
      have H := HA.out
      clear HA
      simp only [spec_l71Net.l1] at H
      by_cases c30 : x5_1 < x602000_1
      ·rw [if_pos c30] at H
       have c30b0 := decide_eq_true c30
       clear c30
       by_cases c31 : x602000_1 > 2
       ·rw [if_pos c31] at H
        have c31b0 := decide_eq_true c31
        clear c31
        by_cases c32 : x602000_1 = 0
        ·rw [if_pos c32] at H
         exact absurd H (by simp)
        ·rw [if_neg c32] at H
         have c32b0 : (x602000_1 == 0) = false := beq_eq_false_iff_ne.mpr c32
         have c32b1 : (x602000_1 != 0) = true := bne_iff_ne.mpr c32
         replace H := Option.bind_eq_some_iff.mp H
         obtain ⟨⟨t611, t612, t615⟩, A330, H⟩ := H
         (try dsimp only at H)
         have A33 := am A330
         clear A330
         have H' := am H
         clear H
         obtain ⟨hnb34, hnc34⟩ := n2 NB601_598 NB598_601
         obtain ⟨hnb35, hnc35⟩ := n2 NB601_0 NB0_601
         obtain ⟨hcz36_0, hcz36_1, hfz36_0, hfz36_1⟩ := c2 BK601
         try go_wp2
         replace HO_602001 := am (Kd.R_drew HO_602001.out)
         replace BK598 := am (blk_drew BK598.out)
         replace BK601 := am (blk_drew BK601.out)
         replace HI0 := am (IsS120.drew HI0.out)
         replace HK := am (keep_drew HK.out)
         replace HB := am (below_drew1 HB.out)
         obtain ⟨Ao38, co38, eo38⟩ := Kd.R_slice HO_602001.out
         (first | subst eo38 | (injection eo38 with f1_ f2_ f3_; have f4_ := f1_.symm; have f5_ := f3_.symm; clear f1_ f2_ f3_; subst f4_; subst f5_))
         refine start_ (n := 12) (S := fun w' => w'.cell? ⟨gb601, 0, none⟩ = some (.int .i64 x602000_1) ∧ w'.cell? ⟨gb601, 1, none⟩ = some (.slice Ao38 x602001_1.length co38)) (ds := [11]) #[false, false, false, false, false, false, false, false, false, false, false, false] (by kernel_rfl) rfl rfl ⟨(bc BK601 0), (bc BK601 1)⟩ (fun hHeld => ?_); refine with_tabW spec_l71Net.tab12 spec_l71Net.bits12 (fun HT_ HW_ => ?_)
         generalize wr.drew = w37 at HO_602001 BK598 BK601 HI0 HK HB hHeld ⊢
         refine pz_ 1 (some 47) HT_ ?_
         refine pz_ 2 (some 48) HT_ ?_
         refine pz_ 3 (some 49) HT_ ?_
         refine pz_ 4 (some 50) HT_ ?_
         refine tz_ 0 (some 46) HT_ HW_ hHeld ?_
         refine tz_ 5 (some 51) HT_ HW_ hHeld ?_
         refine pz_ 6 (some 52) HT_ ?_
         refine one_ (i := 7) (N := some 53) #[true, true, true, true, true, true, true, true, false, false, false, false] rfl rfl (one_of HT_.out (by kernel_rfl)) (by decide) (fun K hK => ?_)
         refine gg_ Try.func127 #[.agg #[.int .i64 x602000_1, .slice Ao38 x602001_1.length co38], .int .i64 x5_1, .int .i64 (Int.tmod (wrap64 (x5_1 + 1)) x602000_1)] ?_
         with_reducible refine (spec_NetAdd.calls k1 x602000_1 _ _ x602001_1 x5_1 (Int.tmod (wrap64 (x5_1 + 1)) x602000_1) t611 t612 t615 _ ?side1 ?side2 A33.out).mono ?_
         (case side1 => exact (Kd.R_reads' (onR HO_602001)).2.2)
         (case side2 => exact (Kd.R_reads' HO_602001.out).2.1)
         rintro e w39 ⟨v613, rfl, ho0, hb⟩
         refine ⟨_, rfl, ?_⟩
         have HO614 := am (Kd.R_lower (Kd.R_new' ho0 (Kd.R_lt (onR HO_602001))) (keep_size (w := w) (g := g) (row := none) (kn HK)))
         replace HO_602001 := am (Kd.R_elder' (onR HO_602001) (Kd.R_base ho0) hb)
         replace BK598 := bb BK598 hb
         replace BK601 := bb BK601 hb
         replace HI0 := am (IsS120.below (IsS120.now) hb)
         replace HK := am (KeepBut.trans (kn HK) (KeepBut.of_below hb g none) (.inl rfl))
         replace HB := bs HB hb
         (try clear hb)
         (try clear hb2)
         (try clear hk)
         (try clear hi)
         (try clear ho0)
         obtain ⟨Ao41, co41, eo41⟩ := Kd.R_slice HO614.out
         (first | subst eo41 | (injection eo41 with f1_ f2_ f3_; have f4_ := f1_.symm; have f5_ := f3_.symm; clear f1_ f2_ f3_; subst f4_; subst f5_))
         refine hK.out _ _ ⟨(bc BK601 0), (bc BK601 1)⟩ (fun hHeld => ?_)
         clear hK K
         refine nz_ 53 ?_
         refine pz_ 8 (some 45) HT_ ?_
         refine pz_ 9 (some 54) HT_ ?_
         refine pz_ 10 (some 55) HT_ ?_
         refine last_ (i := 11) (N := none) #[true, true, true, true, true, true, true, true, true, true, true, true] rfl rfl (one_of HT_.out (by kernel_rfl)) (by decide) (fun K hK => ?_)
         have hs40 := bc BK601 0
         have hfs40 := blk_frozen BK601.out 0
         have hns40_0 := NB598_601.out
         have hms40_0 := NB601_598.out
         have hs42 := bc BK601 1
         have hfs42 := blk_frozen BK601.out 1
         have hns42_0 := NB598_601.out
         have hms42_0 := NB601_598.out
         refine skip_ (w1 := ?_) (by rfl) rfl ?_ ?_
         rotate_left
         ·go_simp
          rfl
         refine hK.out _ _ ?_
         clear hK K
         refine done_ (done_of HT_.out (by kernel_rfl)) ?_
         try go_wp2
         go_roundg k1
         case measure => have := HK1.out; omega
         case rel => exact ⟨(wrap64 (x5_1 + 1)), (t611), (t612), (.slice Ao41 t612.length co41), (by first | rfl | (simp; done) | (simp [*]; done)), H', ⟨by have := HK1.out; omega⟩, ⟨by (with_reducible repeat (first | apply Kd.R_alloc | apply Kd.R_drewN | apply Kd.R_drew)); exact Kd.R_mono (Kd.R_far (p := ⟨gb601, 1, none⟩) (Kd.R_far (p := ⟨gb601, 0, none⟩) (Kd.R_types HO614.out BK601.out (by decide)) (fun _ hk => hk.2) (.int .i64 t611)) (fun _ hk => hk.2) (.slice Ao41 t612.length co41)) (fun _ hk => trivial)⟩, ⟨bkn BK598⟩, ⟨by (with_reducible repeat (first | refine blk_drewN ?_ _ | refine blk_drew ?_ | refine blk_alloc ?_ _)); refine blk_put (cs := #[.int .i64 t611, .slice Ao38 x602001_1.length co38]) ?_ 1 _ rfl; (with_reducible repeat (first | refine blk_drewN ?_ _ | refine blk_drew ?_ | refine blk_alloc ?_ _)); refine blk_put (cs := #[.int .i64 x602000_1, .slice Ao38 x602001_1.length co38]) ?_ 0 _ rfl; (with_reducible repeat (first | refine blk_drewN ?_ _ | refine blk_drew ?_ | refine blk_alloc ?_ _)); exact BK601.out⟩, ⟨IsS120.now⟩, ⟨kn HK⟩, ⟨bn HB⟩⟩
       ·rw [if_neg c31] at H
        have c31b0 := decide_eq_false c31
        clear c31
        have H' := am H
        clear H
        obtain ⟨hnb43, hnc43⟩ := n2 NB601_598 NB598_601
        obtain ⟨hnb44, hnc44⟩ := n2 NB601_0 NB0_601
        obtain ⟨hcz45_0, hcz45_1, hfz45_0, hfz45_1⟩ := c2 BK601
        go_wp2
        go_meet
        case rel => exact ⟨_, (t603), (x602000_1), (x602001_1), (u602001), H', ⟨by have := HK1.out; first | omega | exact Nat.le_refl _⟩, ⟨onR HO_602001⟩, ⟨bkn BK598⟩, ⟨bkn BK601⟩, ⟨IsS120.now⟩, ⟨kn HK⟩, ⟨bn HB⟩⟩
      ·rw [if_neg c30] at H
       have c30b0 := decide_eq_false c30
       clear c30
       have H' := am H
       clear H
       obtain ⟨hnb46, hnc46⟩ := n2 NB601_598 NB598_601
       obtain ⟨hnb47, hnc47⟩ := n2 NB601_0 NB0_601
       obtain ⟨hcz48_0, hcz48_1, hfz48_0, hfz48_1⟩ := c2 BK601
       go_wp2
       go_meet
       case rel => exact ⟨_, (t603), (x602000_1), (x602001_1), (u602001), H', ⟨by have := HK1.out; first | omega | exact Nat.le_refl _⟩, ⟨onR HO_602001⟩, ⟨bkn BK598⟩, ⟨bkn BK601⟩, ⟨IsS120.now⟩, ⟨kn HK⟩, ⟨bn HB⟩⟩
   ·rw [if_neg c29] at H
    have c29b0 : (t602 == 1) = false := beq_eq_false_iff_ne.mpr c29
    have c29b1 : (t602 != 1) = true := bne_iff_ne.mpr c29
    have H' := am H
    clear H
    go_wp2
    go_meet
    case rel => exact ⟨_, (t603), (wrap64 (1 + t599)), (([] : List (S73))), (.slice none 0 0), H', ⟨by first | omega | exact Nat.le_refl _⟩, ⟨by first | exact Kd.R_nil _ _ _ _ _ | exact Kd.N_nil _ _ _ _ _ | exact Kd.V_nil _ _ _ _ _ | exact Kd.Q_nil _ _ _ _ _ | exact Kd.S_nil _ _ _ _ _⟩, ⟨bkn BK598⟩, ⟨bkn BK601⟩, ⟨IsS120.now⟩, ⟨kn HK⟩, ⟨bn HB⟩⟩
 case rest =>
  clear HC4
  try clear c1
  try clear c2
  try clear p2
  try clear c3
  try clear c4
  try clear p6
  try clear c8
  try clear c9
  try clear c12
  try clear c12b0
  try clear c12b1
  try clear c13
  try clear c13b0
  try clear c16
  try clear c17
  try clear c26
  try clear c27
  try clear c29
  try clear c29b0
  try clear c29b1
  try clear c30
  try clear c30b0
  try clear c31
  try clear c31b0
  try clear c32
  try clear c32b0
  try clear c32b1
  try clear c34
  try clear c35
  try clear c43
  try clear c44
  try clear c46
  try clear c47
  try clear hcz10_0 hcz10_1 hfz10_0 hfz10_1
  try clear hcz18_0 hcz18_1 hfz18_0 hfz18_1
  try clear hcz28_0 hcz28_1 hfz28_0 hfz28_1
  try clear hcz36_0 hcz36_1 hfz36_0 hfz36_1
  try clear hcz45_0 hcz45_1 hfz45_0 hfz45_1
  try clear hcz48_0 hcz48_1 hfz48_0 hfz48_1
  try clear p2
  try clear p6
  obtain ⟨kq, x1001_3, x602000_3, x602001_3, u602001, HA, HJ3, HO_602001, BK598, BK601, HI0, HK, HB⟩ := hcut
  cases kq with
  | zero => exact absurd HA.out (by simp [spec_l71Net.j2])
  | succ kj3 =>
   have H := HA.out
   clear HA
   simp only [spec_l71Net.j2] at H
   replace H := Option.bind_eq_some_iff.mp H
   obtain ⟨⟨t616, t617⟩, A490, H⟩ := H
   (try dsimp only at H)
   have A49 := am A490
   clear A490
   have H' := am H
   clear H
   go_wp2_with (first | ((with_reducible refine gate_callee (f := 126) rfl ?_); refine gl_ (some 57) Try.func126 #[.pointer (some ⟨g, 0, none⟩), .int .i64 13] ?_; (with_reducible refine (spec_l6Rd_pick.calls kj3 g s0_0 x1001_3 13 t616 t617 w0 _ ?side1 ?side2 A49.out).mono ?_); (case side1 => exact IsS120.now); (case side2 => exact bn HB); rintro e w50 ⟨rfl, hi, hb, hk⟩; refine ⟨_, rfl, ?_⟩; replace HO_602001 := am (Kd.R_mono (Kd.R_keep (IsS120.apart (show IsS120 w0 _ g s0_0 x1001_3 from IsS120.now) (onR HO_602001) (by decide)) hk (fun _ h => h.2)) (fun _ h => h.1)); replace BK598 := am (KeepBut.blk hk (bkn BK598) NB598_0.out (by simp)); replace BK601 := am (KeepBut.blk hk (bkn BK601) NB601_0.out (by simp)); replace HK := am (KeepBut.trans (kn HK) hk (.inl rfl)); replace HB := am hb; replace HI0 := am hi; (try clear hb); (try clear hk); (try clear hi)))
   go_loopg [6] kj3 (fun kq v6 w' => ∃ (x6_2 : Int) (x1001_2 : Int) (x602000_2 : Int) (x602001_2 : List (S73)) (u602001 : Value), v6 = .int .i64 x6_2 ∧ Aside0 (spec_l71Net.l2 kq x6_2 s0_0 x1001_2 x602000_2 x602001_2 = some (r1, r2, r3)) ∧ Aside0 (kq ≤ kj3) ∧ Aside0 (Kd.R k73 73 w' w.heap.size (fun _ => True) u602001 x602001_2) ∧ Aside0 (w'.heap[gb598]? = some (.cells #[.int .i64 0, (.slice none 0 0)] 34 (0, 0))) ∧ Aside0 (w'.heap[gb601]? = some (.cells #[.int .i64 x602000_2, u602001] 34 (0, 0))) ∧ Aside0 (IsS120 w0 w' g s0_0 x1001_2) ∧ Aside0 (KeepBut w w' g none) ∧ Aside0 (Below w0.heap.size w0 w'))
   case atStart => exact ⟨(t616), (t617), (x602000_3), (x602001_3), (u602001), (by first | rfl | (simp; done) | (simp [*]; done)), H', ⟨Nat.le_refl _⟩, ⟨onR HO_602001⟩, ⟨bkn BK598⟩, ⟨bkn BK601⟩, ⟨IsS120.now⟩, ⟨kn HK⟩, ⟨bn HB⟩⟩
   case round =>
    clear H'
    try clear c1
    try clear c2
    try clear p2
    try clear c3
    try clear c4
    try clear p6
    try clear c8
    try clear c9
    try clear c12
    try clear c12b0
    try clear c12b1
    try clear c13
    try clear c13b0
    try clear c16
    try clear c17
    try clear c26
    try clear c27
    try clear c29
    try clear c29b0
    try clear c29b1
    try clear c30
    try clear c30b0
    try clear c31
    try clear c31b0
    try clear c32
    try clear c32b0
    try clear c32b1
    try clear c34
    try clear c35
    try clear c43
    try clear c44
    try clear c46
    try clear c47
    try clear hcz10_0 hcz10_1 hfz10_0 hfz10_1
    try clear hcz18_0 hcz18_1 hfz18_0 hfz18_1
    try clear hcz28_0 hcz28_1 hfz28_0 hfz28_1
    try clear hcz36_0 hcz36_1 hfz36_0 hfz36_1
    try clear hcz45_0 hcz45_1 hfz45_0 hfz45_1
    try clear hcz48_0 hcz48_1 hfz48_0 hfz48_1
    try clear p2
    try clear p6
    obtain ⟨x6_2, x1001_2, x602000_2, x602001_2, u602001, rfl, HA, HK2, HO_602001, BK598, BK601, HI0, HK, HB⟩ := hrel
    cases gk with
    | zero => exact absurd HA.out (by simp [spec_l71Net.l2])
    | succ k2 =>
     have H := HA.out
     clear HA
     simp only [spec_l71Net.l2] at H
     have HC51 := am H
     clear H
     go_upto_region 14 with (fail)
     go_cut [64] (fun v64 wc => ∃ (kq : Nat) (x64_50 : Bool), v64 = .bool x64_50 ∧ Aside0 (spec_l71Net.j4 kq x6_2 x64_50 s0_0 x1001_2 x602000_2 x602001_2 = some (r1, r2, r3)) ∧ Aside0 (kq ≤ k2) ∧ Aside0 (Kd.R k73 73 wc w.heap.size (fun _ => True) u602001 x602001_2) ∧ Aside0 (wc.heap[gb598]? = some (.cells #[.int .i64 0, (.slice none 0 0)] 34 (0, 0))) ∧ Aside0 (wc.heap[gb601]? = some (.cells #[.int .i64 x602000_2, u602001] 34 (0, 0))) ∧ Aside0 (IsS120 w0 wc g s0_0 x1001_2) ∧ Aside0 (KeepBut w wc g none) ∧ Aside0 (Below w0.heap.size w0 wc))
     case first =>
      have H := HC51.out
      clear HC51
      by_cases c52 : x6_2 > 0
      ·rw [if_pos c52] at H
       have c52b0 := decide_eq_true c52
       clear c52
       (first | rw [c52b0] | (simp only [i64_w, i32_w]; rw [c52b0]) | skip)
       have H' := am H
       clear H
       obtain ⟨hnb53, hnc53⟩ := n2 NB601_598 NB598_601
       obtain ⟨hnb54, hnc54⟩ := n2 NB601_0 NB0_601
       obtain ⟨hcz55_0, hcz55_1, hfz55_0, hfz55_1⟩ := c2 BK601
       go_wp2
       go_meet
       case rel => exact ⟨_, (decide (x602000_2 > 1)), (by first | rfl | (simp; done) | (simp [*]; done)), H', ⟨by have := HJ3.out; have := HK2.out; first | omega | exact Nat.le_refl _⟩, ⟨onR HO_602001⟩, ⟨bkn BK598⟩, ⟨bkn BK601⟩, ⟨IsS120.now⟩, ⟨kn HK⟩, ⟨bn HB⟩⟩
      ·rw [if_neg c52] at H
       have c52b0 := decide_eq_false c52
       clear c52
       (first | rw [c52b0] | (simp only [i64_w, i32_w]; rw [c52b0]) | skip)
       have H' := am H
       clear H
       go_wp2
       go_meet
       case rel => exact ⟨_, (false), (by first | rfl | (simp; done) | (simp [*]; done)), H', ⟨by have := HJ3.out; have := HK2.out; first | omega | exact Nat.le_refl _⟩, ⟨onR HO_602001⟩, ⟨bkn BK598⟩, ⟨bkn BK601⟩, ⟨IsS120.now⟩, ⟨kn HK⟩, ⟨bn HB⟩⟩
     case rest =>
      clear HC51
      try clear c1
      try clear c2
      try clear p2
      try clear c3
      try clear c4
      try clear c5
      try clear p6
      try clear c8
      try clear c9
      try clear c12
      try clear c12b0
      try clear c12b1
      try clear c13
      try clear c13b0
      try clear c16
      try clear c17
      try clear c26
      try clear c27
      try clear c29
      try clear c29b0
      try clear c29b1
      try clear c30
      try clear c30b0
      try clear c31
      try clear c31b0
      try clear c32
      try clear c32b0
      try clear c32b1
      try clear c34
      try clear c35
      try clear c43
      try clear c44
      try clear c46
      try clear c47
      try clear c52
      try clear c52b0
      try clear c53
      try clear c54
      try clear hcz10_0 hcz10_1 hfz10_0 hfz10_1
      try clear hcz18_0 hcz18_1 hfz18_0 hfz18_1
      try clear hcz28_0 hcz28_1 hfz28_0 hfz28_1
      try clear hcz36_0 hcz36_1 hfz36_0 hfz36_1
      try clear hcz45_0 hcz45_1 hfz45_0 hfz45_1
      try clear hcz48_0 hcz48_1 hfz48_0 hfz48_1
      try clear hcz55_0 hcz55_1 hfz55_0 hfz55_1
      try clear p2
      try clear p6
      obtain ⟨kq, x64_50, rfl, HA, HJ50, HO_602001, BK598, BK601, HI0, HK, HB⟩ := hcut
      cases kq with
      | zero => exact absurd HA.out (by simp [spec_l71Net.j4])
      | succ kj50 =>
       have H := HA.out
       clear HA
       simp only [spec_l71Net.j4] at H
       by_cases c56 : x64_50 = true
       ·subst c56
        rw [if_pos rfl] at H
        replace H := Option.bind_eq_some_iff.mp H
        obtain ⟨⟨t618, t619⟩, A570, H⟩ := H
        (try dsimp only at H)
        have A57 := am A570
        clear A570
        replace H := Option.bind_eq_some_iff.mp H
        obtain ⟨⟨t620, t621⟩, A580, H⟩ := H
        (try dsimp only at H)
        have A58 := am A580
        clear A580
        replace H := Option.bind_eq_some_iff.mp H
        obtain ⟨⟨t622, t623, t626⟩, A590, H⟩ := H
        (try dsimp only at H)
        have A59 := am A590
        clear A590
        by_cases c60 : t626 = true
        ·subst c60
         rw [if_pos rfl] at H
         have H' := am H
         clear H
         obtain ⟨Ao61, co61, eo61⟩ := Kd.R_slice HO_602001.out
         subst eo61
         try go_wp2
         replace HO_602001 := am (Kd.R_drew HO_602001.out)
         replace BK598 := am (blk_drew BK598.out)
         replace BK601 := am (blk_drew BK601.out)
         replace HI0 := am (IsS120.drew HI0.out)
         replace HK := am (keep_drew HK.out)
         replace HB := am (below_drew1 HB.out)
         refine start_ (n := 16) (S := fun w' => w'.cell? ⟨gb601, 0, none⟩ = some (.int .i64 x602000_2) ∧ w'.cell? ⟨gb601, 1, none⟩ = some (.slice Ao61 x602001_2.length co61)) (ds := []) #[false, false, false, false, false, false, false, false, false, false, false, false, false, false, false, false] (by kernel_rfl) rfl rfl ⟨(bc BK601 0), (bc BK601 1)⟩ (fun hHeld => ?_); refine with_tabW spec_l71Net.tab16 spec_l71Net.bits16 (fun HT_ HW_ => ?_)
         generalize wc.drew = w62 at HO_602001 BK598 BK601 HI0 HK HB hHeld ⊢
         refine pz_ 1 (some 69) HT_ ?_
         refine pz_ 2 (some 70) HT_ ?_
         refine pz_ 5 (some 73) HT_ ?_
         refine pz_ 6 (some 74) HT_ ?_
         refine tz_ 0 (some 68) HT_ HW_ hHeld ?_
         refine tz_ 3 (some 71) HT_ HW_ hHeld ?_
         refine tz_ 7 (some 75) HT_ HW_ hHeld ?_
         refine join_ (σ := Value × Nat) 2 #[true, true, true, true, true, true, true, true, true, true, true, true, true, true, false, false] (fun s_ => [(72, .int .i64 t618), (76, .int .i64 t620), (77, .tuple #[.agg #[.int .i64 t622, s_.1], .bool true]), (7, .pointer (some ⟨s_.2, 0, none⟩)), (67, .tuple #[.agg #[.int .i64 t622, s_.1], .bool true]), (78, .agg #[.int .i64 t622, s_.1]), (79, .bool true)]) (fun s_ w' => (w'.cell? ⟨gb601, 0, none⟩ = some (.int .i64 x602000_2) ∧ w'.cell? ⟨gb601, 1, none⟩ = some (.slice Ao61 x602001_2.length co61)) ∧ (Kd.R k73 73 w' w.heap.size (fun k_ => some k_ ≠ (.slice Ao61 x602001_2.length co61 : Value).ownBlock) s_.1 t623) ∧ (Kd.R k73 73 w' w.heap.size (fun k_ => some k_ ≠ (s_.1 : Value).ownBlock) (.slice Ao61 x602001_2.length co61) x602001_2) ∧ (w'.heap[gb598]? = some (.cells #[.int .i64 0, .slice none 0 0] 34 (0, 0))) ∧ (w'.heap[gb601]? = some (.cells #[.int .i64 x602000_2, .slice Ao61 x602001_2.length co61] 34 (0, 0))) ∧ (w'.heap[s_.2]? = some (.cells #[.int .i64 0, .slice none 0 0] 34 (0, 0))) ∧ (w.heap.size ≤ s_.2) ∧ (w0.heap.size ≤ s_.2) ∧ (g ≠ s_.2) ∧ (s_.2 ≠ g) ∧ (gb598 ≠ s_.2) ∧ (s_.2 ≠ gb598) ∧ (gb601 ≠ s_.2) ∧ (s_.2 ≠ gb601) ∧ (IsS120 w0 w' g s0_0 t621) ∧ (KeepBut w w' g none) ∧ (Below w0.heap.size w0 w')) ?_ ?_
         rotate_left
         ·intro hCont
          refine two_ (i := 4) (j := 13) (Ni := some 72) (Nj := some 7) #[true, true, true, true, true, true, true, true, false, false, false, false, false, false, false, false] #[true, true, true, true, false, true, true, true, false, false, false, false, false, true, false, false] rfl rfl rfl rfl (two_of HT_.out (by kernel_rfl)) (by decide) (by decide) (fun K hK => ?_) (fun K hK => ?_)
          ·skip
           refine gg_ Try.func126 #[.pointer (some ⟨g, 0, none⟩), .int .i64 x602000_2] ?_
           with_reducible refine (spec_l6Rd_pick.calls kj50 g s0_0 x1001_2 x602000_2 t618 t619 w0 _ ?side1 ?side2 A57.out).mono ?_
           (case side1 => exact IsS120.now)
           (case side2 => exact bn HB)
           rintro e w63 ⟨rfl, hi, hb, hk⟩
           refine ⟨_, rfl, ?_⟩
           replace HO_602001 := am (Kd.R_mono (Kd.R_keep (IsS120.apart (show IsS120 w0 _ g s0_0 x1001_2 from IsS120.now) (onR HO_602001) (by decide)) hk (fun _ h => h.2)) (fun _ h => h.1))
           replace BK598 := am (KeepBut.blk hk (bkn BK598) NB598_0.out (by simp))
           replace BK601 := am (KeepBut.blk hk (bkn BK601) NB601_0.out (by simp))
           replace HK := am (KeepBut.trans (kn HK) hk (.inl rfl))
           replace HB := am hb
           replace HI0 := am hi
           (try clear hb)
           (try clear hb2)
           (try clear hk)
           (try clear hi)
           refine hK.out _ _ ⟨(bc BK601 0), (bc BK601 1)⟩ (fun hHeld => ?_)
           clear hK K
           refine nz_ 72 ?_
           refine two_ (i := 8) (j := 13) (Ni := some 76) (Nj := some 7) #[true, true, true, true, true, true, true, true, true, false, false, false, false, false, false, false] #[true, true, true, true, true, true, true, true, false, false, false, false, false, true, false, false] rfl rfl rfl rfl (two_of HT_.out (by kernel_rfl)) (by decide) (by decide) (fun K hK => ?_) (fun K hK => ?_)
           ·skip
            refine gg_ Try.func126 #[.pointer (some ⟨g, 0, none⟩), .int .i64 x602000_2] ?_
            with_reducible refine (spec_l6Rd_pick.calls kj50 g s0_0 t619 x602000_2 t620 t621 w0 _ ?side1 ?side2 A58.out).mono ?_
            (case side1 => exact IsS120.now)
            (case side2 => exact bn HB)
            rintro e w64 ⟨rfl, hi, hb, hk⟩
            refine ⟨_, rfl, ?_⟩
            replace HO_602001 := am (Kd.R_mono (Kd.R_keep (IsS120.apart (show IsS120 w0 _ g s0_0 t619 from IsS120.now) (onR HO_602001) (by decide)) hk (fun _ h => h.2)) (fun _ h => h.1))
            replace BK598 := am (KeepBut.blk hk (bkn BK598) NB598_0.out (by simp))
            replace BK601 := am (KeepBut.blk hk (bkn BK601) NB601_0.out (by simp))
            replace HK := am (KeepBut.trans (kn HK) hk (.inl rfl))
            replace HB := am hb
            replace HI0 := am hi
            (try clear hb)
            (try clear hb2)
            (try clear hk)
            (try clear hi)
            refine hK.out _ _ ⟨(bc BK601 0), (bc BK601 1)⟩ (fun hHeld => ?_)
            clear hK K
            refine nz_ 76 ?_
            refine two_ (i := 9) (j := 13) (Ni := some 77) (Nj := some 7) #[true, true, true, true, true, true, true, true, true, true, false, false, false, false, false, false] #[true, true, true, true, true, true, true, true, true, false, false, false, false, true, false, false] rfl rfl rfl rfl (two_of HT_.out (by kernel_rfl)) (by decide) (by decide) (fun K hK => ?_) (fun K hK => ?_)
            ·skip
             refine gg_ Try.func127 #[.agg #[.int .i64 x602000_2, .slice Ao61 x602001_2.length co61], .int .i64 t618, .int .i64 t620] ?_
             with_reducible refine (spec_NetAdd.calls kj50 x602000_2 _ _ x602001_2 t618 t620 t622 t623 true _ ?side1 ?side2 A59.out).mono ?_
             (case side1 => exact (Kd.R_reads' (onR HO_602001)).2.2)
             (case side2 => exact (Kd.R_reads' HO_602001.out).2.1)
             rintro e w65 ⟨v624, rfl, ho0, hb⟩
             refine ⟨_, rfl, ?_⟩
             have HO625 := am (Kd.R_lower (Kd.R_new' ho0 (Kd.R_lt (onR HO_602001))) (keep_size (w := w) (g := g) (row := none) (kn HK)))
             replace HO_602001 := am (Kd.R_elder' (onR HO_602001) (Kd.R_base ho0) hb)
             replace BK598 := bb BK598 hb
             replace BK601 := bb BK601 hb
             replace HI0 := am (IsS120.below (IsS120.now) hb)
             replace HK := am (KeepBut.trans (kn HK) (KeepBut.of_below hb g none) (.inl rfl))
             replace HB := bs HB hb
             (try clear hb)
             (try clear hb2)
             (try clear hk)
             (try clear hi)
             (try clear ho0)
             refine hK.out _ _ ⟨(bc BK601 0), (bc BK601 1)⟩ (fun hHeld => ?_)
             clear hK K
             refine nz_ 77 ?_
             refine pz_ 10 (some 67) HT_ ?_
             refine pz_ 11 (some 78) HT_ ?_
             refine pz_ 12 (some 79) HT_ ?_
             refine one_ (i := 13) (N := some 7) #[true, true, true, true, true, true, true, true, true, true, true, true, true, true, false, false] rfl rfl (one_of HT_.out (by kernel_rfl)) (by decide) (fun K hK => ?_)
             refine box_step ?hg (N := 7) ?hd (cs := #[.int .i64 0, .slice none 0 0]) (t := 34) ?hr ?_; (case hd => rfl); (case hg => rfl); (case hr => first | (go_simp; done) | (go_simp; rfl))
             intro gb627 hg w66 hbox hb
             have n0_ := am (Kd.R_below (onR HO_602001) hb)
             have n1_ := am (Kd.R_below (onR HO625) hb)
             have n2_ := bb BK598 hb
             have n3_ := bb BK601 hb
             have n4_ := am (IsS120.below (IsS120.now) hb)
             have n5_ := am (KeepBut.trans (kn HK) (KeepBut.of_below hb g none) (.inl rfl))
             have n6_ := bs HB hb
             have n7_ := am hbox
             have n8_ := am (gk_ hg HK)
             have n9_ := am (Nat.le_trans HW0.out (gk_ hg HK) : w0.heap.size ≤ gb627)
             have n10_ := am ((by rw [hg]; exact Nat.ne_of_lt (blk_lt (bkn BK598)) : gb598 ≠ gb627))
             have n11_ := am ((by rw [hg]; exact Nat.ne_of_gt (blk_lt (bkn BK598)) : gb627 ≠ gb598))
             have n12_ := am ((by rw [hg]; exact Nat.ne_of_lt (blk_lt (bkn BK601)) : gb601 ≠ gb627))
             have n13_ := am ((by rw [hg]; exact Nat.ne_of_gt (blk_lt (bkn BK601)) : gb627 ≠ gb601))
             have n14_ := am ((by rw [hg]; exact Nat.ne_of_lt (IsS120.lt (show IsS120 w0 _ g s0_0 t621 from IsS120.now)) : g ≠ gb627))
             have n15_ := am ((by rw [hg]; exact Nat.ne_of_gt (IsS120.lt (show IsS120 w0 _ g s0_0 t621 from IsS120.now)) : gb627 ≠ g))
             clear HO_602001 HO625 BK598 BK601 HI0 HK HB
             have HO_602001 := n0_
             have HO625 := n1_
             have BK598 := n2_
             have BK601 := n3_
             have HI0 := n4_
             have HK := n5_
             have HB := n6_
             have BK627 := n7_
             have GW627 := n8_
             have GE627 := n9_
             have NB598_627 := n10_
             have NB627_598 := n11_
             have NB601_627 := n12_
             have NB627_601 := n13_
             have NB0_627 := n14_
             have NB627_0 := n15_
             clear n0_ n1_ n2_ n3_ n4_ n5_ n6_ n7_ n8_ n9_ n10_ n11_ n12_ n13_ n14_ n15_ hb hbox hg
             refine hK.out _ _ ⟨(bc BK601 0), (bc BK601 1)⟩ (fun hHeld => ?_)
             clear hK K
             refine nz_ 7 ?_
             exact norm_ (by simp only [putAll, Act.put, List.setIfInBounds_toArray, List.set_cons_zero, List.set_cons_succ]) (hCont (v624, gb627) _ ⟨hHeld, (by (with_reducible repeat (first | apply Kd.R_alloc | apply Kd.R_drewN | apply Kd.R_drew)); exact Kd.R_mono HO625.out (fun _ hk => hk.2)), (by (with_reducible repeat (first | apply Kd.R_alloc | apply Kd.R_drewN | apply Kd.R_drew)); exact Kd.R_mono HO_602001.out (fun _ hk => hk.2)), (bkn BK598), (bkn BK601), (bkn BK627), GW627.out, GE627.out, NB0_627.out, NB627_0.out, NB598_627.out, NB627_598.out, NB601_627.out, NB627_601.out, (IsS120.now), (kn HK), (bn HB)⟩)
            ·skip
             refine box_step ?hg (N := 7) ?hd (cs := #[.int .i64 0, .slice none 0 0]) (t := 34) ?hr ?_; (case hd => rfl); (case hg => rfl); (case hr => first | (go_simp; done) | (go_simp; rfl))
             intro gb627 hg w65 hbox hb
             have n0_ := am (Kd.R_below (onR HO_602001) hb)
             have n1_ := bb BK598 hb
             have n2_ := bb BK601 hb
             have n3_ := am (IsS120.below (IsS120.now) hb)
             have n4_ := am (KeepBut.trans (kn HK) (KeepBut.of_below hb g none) (.inl rfl))
             have n5_ := bs HB hb
             have n6_ := am hbox
             have n7_ := am (gk_ hg HK)
             have n8_ := am (Nat.le_trans HW0.out (gk_ hg HK) : w0.heap.size ≤ gb627)
             have n9_ := am ((by rw [hg]; exact Nat.ne_of_lt (blk_lt (bkn BK598)) : gb598 ≠ gb627))
             have n10_ := am ((by rw [hg]; exact Nat.ne_of_gt (blk_lt (bkn BK598)) : gb627 ≠ gb598))
             have n11_ := am ((by rw [hg]; exact Nat.ne_of_lt (blk_lt (bkn BK601)) : gb601 ≠ gb627))
             have n12_ := am ((by rw [hg]; exact Nat.ne_of_gt (blk_lt (bkn BK601)) : gb627 ≠ gb601))
             have n13_ := am ((by rw [hg]; exact Nat.ne_of_lt (IsS120.lt (show IsS120 w0 _ g s0_0 t621 from IsS120.now)) : g ≠ gb627))
             have n14_ := am ((by rw [hg]; exact Nat.ne_of_gt (IsS120.lt (show IsS120 w0 _ g s0_0 t621 from IsS120.now)) : gb627 ≠ g))
             clear HO_602001 BK598 BK601 HI0 HK HB
             have HO_602001 := n0_
             have BK598 := n1_
             have BK601 := n2_
             have HI0 := n3_
             have HK := n4_
             have HB := n5_
             have BK627 := n6_
             have GW627 := n7_
             have GE627 := n8_
             have NB598_627 := n9_
             have NB627_598 := n10_
             have NB601_627 := n11_
             have NB627_601 := n12_
             have NB0_627 := n13_
             have NB627_0 := n14_
             clear n0_ n1_ n2_ n3_ n4_ n5_ n6_ n7_ n8_ n9_ n10_ n11_ n12_ n13_ n14_ hb hbox hg
             refine hK.out _ _ ⟨(bc BK601 0), (bc BK601 1)⟩ (fun hHeld => ?_)
             clear hK K
             refine nz_ 7 ?_
             refine one_ (i := 9) (N := some 77) #[true, true, true, true, true, true, true, true, true, true, false, false, false, true, false, false] rfl rfl (one_of HT_.out (by kernel_rfl)) (by decide) (fun K hK => ?_)
             refine gg_ Try.func127 #[.agg #[.int .i64 x602000_2, .slice Ao61 x602001_2.length co61], .int .i64 t618, .int .i64 t620] ?_
             with_reducible refine (spec_NetAdd.calls kj50 x602000_2 _ _ x602001_2 t618 t620 t622 t623 true _ ?side1 ?side2 A59.out).mono ?_
             (case side1 => exact (Kd.R_reads' (onR HO_602001)).2.2)
             (case side2 => exact (Kd.R_reads' HO_602001.out).2.1)
             rintro e w66 ⟨v624, rfl, ho0, hb⟩
             refine ⟨_, rfl, ?_⟩
             have HO625 := am (Kd.R_lower (Kd.R_new' ho0 (Kd.R_lt (onR HO_602001))) (keep_size (w := w) (g := g) (row := none) (kn HK)))
             replace HO_602001 := am (Kd.R_elder' (onR HO_602001) (Kd.R_base ho0) hb)
             replace BK598 := bb BK598 hb
             replace BK601 := bb BK601 hb
             replace HI0 := am (IsS120.below (IsS120.now) hb)
             replace BK627 := bb BK627 hb
             replace HK := am (KeepBut.trans (kn HK) (KeepBut.of_below hb g none) (.inl rfl))
             replace HB := bs HB hb
             (try clear hb)
             (try clear hb2)
             (try clear hk)
             (try clear hi)
             (try clear ho0)
             refine hK.out _ _ ⟨(bc BK601 0), (bc BK601 1)⟩ (fun hHeld => ?_)
             clear hK K
             refine nz_ 77 ?_
             refine pz_ 10 (some 67) HT_ ?_
             refine pz_ 11 (some 78) HT_ ?_
             refine pz_ 12 (some 79) HT_ ?_
             exact norm_ (by simp only [putAll, Act.put, List.setIfInBounds_toArray, List.set_cons_zero, List.set_cons_succ]) (hCont (v624, gb627) _ ⟨hHeld, (by (with_reducible repeat (first | apply Kd.R_alloc | apply Kd.R_drewN | apply Kd.R_drew)); exact Kd.R_mono HO625.out (fun _ hk => hk.2)), (by (with_reducible repeat (first | apply Kd.R_alloc | apply Kd.R_drewN | apply Kd.R_drew)); exact Kd.R_mono HO_602001.out (fun _ hk => hk.2)), (bkn BK598), (bkn BK601), (bkn BK627), GW627.out, GE627.out, NB0_627.out, NB627_0.out, NB598_627.out, NB627_598.out, NB601_627.out, NB627_601.out, (IsS120.now), (kn HK), (bn HB)⟩)
           ·skip
            refine box_step ?hg (N := 7) ?hd (cs := #[.int .i64 0, .slice none 0 0]) (t := 34) ?hr ?_; (case hd => rfl); (case hg => rfl); (case hr => first | (go_simp; done) | (go_simp; rfl))
            intro gb627 hg w64 hbox hb
            have n0_ := am (Kd.R_below (onR HO_602001) hb)
            have n1_ := bb BK598 hb
            have n2_ := bb BK601 hb
            have n3_ := am (IsS120.below (IsS120.now) hb)
            have n4_ := am (KeepBut.trans (kn HK) (KeepBut.of_below hb g none) (.inl rfl))
            have n5_ := bs HB hb
            have n6_ := am hbox
            have n7_ := am (gk_ hg HK)
            have n8_ := am (Nat.le_trans HW0.out (gk_ hg HK) : w0.heap.size ≤ gb627)
            have n9_ := am ((by rw [hg]; exact Nat.ne_of_lt (blk_lt (bkn BK598)) : gb598 ≠ gb627))
            have n10_ := am ((by rw [hg]; exact Nat.ne_of_gt (blk_lt (bkn BK598)) : gb627 ≠ gb598))
            have n11_ := am ((by rw [hg]; exact Nat.ne_of_lt (blk_lt (bkn BK601)) : gb601 ≠ gb627))
            have n12_ := am ((by rw [hg]; exact Nat.ne_of_gt (blk_lt (bkn BK601)) : gb627 ≠ gb601))
            have n13_ := am ((by rw [hg]; exact Nat.ne_of_lt (IsS120.lt (show IsS120 w0 _ g s0_0 t619 from IsS120.now)) : g ≠ gb627))
            have n14_ := am ((by rw [hg]; exact Nat.ne_of_gt (IsS120.lt (show IsS120 w0 _ g s0_0 t619 from IsS120.now)) : gb627 ≠ g))
            clear HO_602001 BK598 BK601 HI0 HK HB
            have HO_602001 := n0_
            have BK598 := n1_
            have BK601 := n2_
            have HI0 := n3_
            have HK := n4_
            have HB := n5_
            have BK627 := n6_
            have GW627 := n7_
            have GE627 := n8_
            have NB598_627 := n9_
            have NB627_598 := n10_
            have NB601_627 := n11_
            have NB627_601 := n12_
            have NB0_627 := n13_
            have NB627_0 := n14_
            clear n0_ n1_ n2_ n3_ n4_ n5_ n6_ n7_ n8_ n9_ n10_ n11_ n12_ n13_ n14_ hb hbox hg
            refine hK.out _ _ ⟨(bc BK601 0), (bc BK601 1)⟩ (fun hHeld => ?_)
            clear hK K
            refine nz_ 7 ?_
            refine one_ (i := 8) (N := some 76) #[true, true, true, true, true, true, true, true, true, false, false, false, false, true, false, false] rfl rfl (one_of HT_.out (by kernel_rfl)) (by decide) (fun K hK => ?_)
            refine gg_ Try.func126 #[.pointer (some ⟨g, 0, none⟩), .int .i64 x602000_2] ?_
            with_reducible refine (spec_l6Rd_pick.calls kj50 g s0_0 t619 x602000_2 t620 t621 w0 _ ?side1 ?side2 A58.out).mono ?_
            (case side1 => exact IsS120.now)
            (case side2 => exact bn HB)
            rintro e w65 ⟨rfl, hi, hb, hk⟩
            refine ⟨_, rfl, ?_⟩
            replace HO_602001 := am (Kd.R_mono (Kd.R_keep (IsS120.apart (show IsS120 w0 _ g s0_0 t619 from IsS120.now) (onR HO_602001) (by decide)) hk (fun _ h => h.2)) (fun _ h => h.1))
            replace BK598 := am (KeepBut.blk hk (bkn BK598) NB598_0.out (by simp))
            replace BK601 := am (KeepBut.blk hk (bkn BK601) NB601_0.out (by simp))
            replace BK627 := am (KeepBut.blk hk (bkn BK627) NB627_0.out (by simp))
            replace HK := am (KeepBut.trans (kn HK) hk (.inl rfl))
            replace HB := am hb
            replace HI0 := am hi
            (try clear hb)
            (try clear hb2)
            (try clear hk)
            (try clear hi)
            refine hK.out _ _ ⟨(bc BK601 0), (bc BK601 1)⟩ (fun hHeld => ?_)
            clear hK K
            refine nz_ 76 ?_
            refine one_ (i := 9) (N := some 77) #[true, true, true, true, true, true, true, true, true, true, false, false, false, true, false, false] rfl rfl (one_of HT_.out (by kernel_rfl)) (by decide) (fun K hK => ?_)
            refine gg_ Try.func127 #[.agg #[.int .i64 x602000_2, .slice Ao61 x602001_2.length co61], .int .i64 t618, .int .i64 t620] ?_
            with_reducible refine (spec_NetAdd.calls kj50 x602000_2 _ _ x602001_2 t618 t620 t622 t623 true _ ?side1 ?side2 A59.out).mono ?_
            (case side1 => exact (Kd.R_reads' (onR HO_602001)).2.2)
            (case side2 => exact (Kd.R_reads' HO_602001.out).2.1)
            rintro e w66 ⟨v624, rfl, ho0, hb⟩
            refine ⟨_, rfl, ?_⟩
            have HO625 := am (Kd.R_lower (Kd.R_new' ho0 (Kd.R_lt (onR HO_602001))) (keep_size (w := w) (g := g) (row := none) (kn HK)))
            replace HO_602001 := am (Kd.R_elder' (onR HO_602001) (Kd.R_base ho0) hb)
            replace BK598 := bb BK598 hb
            replace BK601 := bb BK601 hb
            replace HI0 := am (IsS120.below (IsS120.now) hb)
            replace BK627 := bb BK627 hb
            replace HK := am (KeepBut.trans (kn HK) (KeepBut.of_below hb g none) (.inl rfl))
            replace HB := bs HB hb
            (try clear hb)
            (try clear hb2)
            (try clear hk)
            (try clear hi)
            (try clear ho0)
            refine hK.out _ _ ⟨(bc BK601 0), (bc BK601 1)⟩ (fun hHeld => ?_)
            clear hK K
            refine nz_ 77 ?_
            refine pz_ 10 (some 67) HT_ ?_
            refine pz_ 11 (some 78) HT_ ?_
            refine pz_ 12 (some 79) HT_ ?_
            exact norm_ (by simp only [putAll, Act.put, List.setIfInBounds_toArray, List.set_cons_zero, List.set_cons_succ]) (hCont (v624, gb627) _ ⟨hHeld, (by (with_reducible repeat (first | apply Kd.R_alloc | apply Kd.R_drewN | apply Kd.R_drew)); exact Kd.R_mono HO625.out (fun _ hk => hk.2)), (by (with_reducible repeat (first | apply Kd.R_alloc | apply Kd.R_drewN | apply Kd.R_drew)); exact Kd.R_mono HO_602001.out (fun _ hk => hk.2)), (bkn BK598), (bkn BK601), (bkn BK627), GW627.out, GE627.out, NB0_627.out, NB627_0.out, NB598_627.out, NB627_598.out, NB601_627.out, NB627_601.out, (IsS120.now), (kn HK), (bn HB)⟩)
          ·skip
           refine box_step ?hg (N := 7) ?hd (cs := #[.int .i64 0, .slice none 0 0]) (t := 34) ?hr ?_; (case hd => rfl); (case hg => rfl); (case hr => first | (go_simp; done) | (go_simp; rfl))
           intro gb627 hg w63 hbox hb
           have n0_ := am (Kd.R_below (onR HO_602001) hb)
           have n1_ := bb BK598 hb
           have n2_ := bb BK601 hb
           have n3_ := am (IsS120.below (IsS120.now) hb)
           have n4_ := am (KeepBut.trans (kn HK) (KeepBut.of_below hb g none) (.inl rfl))
           have n5_ := bs HB hb
           have n6_ := am hbox
           have n7_ := am (gk_ hg HK)
           have n8_ := am (Nat.le_trans HW0.out (gk_ hg HK) : w0.heap.size ≤ gb627)
           have n9_ := am ((by rw [hg]; exact Nat.ne_of_lt (blk_lt (bkn BK598)) : gb598 ≠ gb627))
           have n10_ := am ((by rw [hg]; exact Nat.ne_of_gt (blk_lt (bkn BK598)) : gb627 ≠ gb598))
           have n11_ := am ((by rw [hg]; exact Nat.ne_of_lt (blk_lt (bkn BK601)) : gb601 ≠ gb627))
           have n12_ := am ((by rw [hg]; exact Nat.ne_of_gt (blk_lt (bkn BK601)) : gb627 ≠ gb601))
           have n13_ := am ((by rw [hg]; exact Nat.ne_of_lt (IsS120.lt (show IsS120 w0 _ g s0_0 x1001_2 from IsS120.now)) : g ≠ gb627))
           have n14_ := am ((by rw [hg]; exact Nat.ne_of_gt (IsS120.lt (show IsS120 w0 _ g s0_0 x1001_2 from IsS120.now)) : gb627 ≠ g))
           clear HO_602001 BK598 BK601 HI0 HK HB
           have HO_602001 := n0_
           have BK598 := n1_
           have BK601 := n2_
           have HI0 := n3_
           have HK := n4_
           have HB := n5_
           have BK627 := n6_
           have GW627 := n7_
           have GE627 := n8_
           have NB598_627 := n9_
           have NB627_598 := n10_
           have NB601_627 := n11_
           have NB627_601 := n12_
           have NB0_627 := n13_
           have NB627_0 := n14_
           clear n0_ n1_ n2_ n3_ n4_ n5_ n6_ n7_ n8_ n9_ n10_ n11_ n12_ n13_ n14_ hb hbox hg
           refine hK.out _ _ ⟨(bc BK601 0), (bc BK601 1)⟩ (fun hHeld => ?_)
           clear hK K
           refine nz_ 7 ?_
           refine one_ (i := 4) (N := some 72) #[true, true, true, true, true, true, true, true, false, false, false, false, false, true, false, false] rfl rfl (one_of HT_.out (by kernel_rfl)) (by decide) (fun K hK => ?_)
           refine gg_ Try.func126 #[.pointer (some ⟨g, 0, none⟩), .int .i64 x602000_2] ?_
           with_reducible refine (spec_l6Rd_pick.calls kj50 g s0_0 x1001_2 x602000_2 t618 t619 w0 _ ?side1 ?side2 A57.out).mono ?_
           (case side1 => exact IsS120.now)
           (case side2 => exact bn HB)
           rintro e w64 ⟨rfl, hi, hb, hk⟩
           refine ⟨_, rfl, ?_⟩
           replace HO_602001 := am (Kd.R_mono (Kd.R_keep (IsS120.apart (show IsS120 w0 _ g s0_0 x1001_2 from IsS120.now) (onR HO_602001) (by decide)) hk (fun _ h => h.2)) (fun _ h => h.1))
           replace BK598 := am (KeepBut.blk hk (bkn BK598) NB598_0.out (by simp))
           replace BK601 := am (KeepBut.blk hk (bkn BK601) NB601_0.out (by simp))
           replace BK627 := am (KeepBut.blk hk (bkn BK627) NB627_0.out (by simp))
           replace HK := am (KeepBut.trans (kn HK) hk (.inl rfl))
           replace HB := am hb
           replace HI0 := am hi
           (try clear hb)
           (try clear hb2)
           (try clear hk)
           (try clear hi)
           refine hK.out _ _ ⟨(bc BK601 0), (bc BK601 1)⟩ (fun hHeld => ?_)
           clear hK K
           refine nz_ 72 ?_
           refine one_ (i := 8) (N := some 76) #[true, true, true, true, true, true, true, true, true, false, false, false, false, true, false, false] rfl rfl (one_of HT_.out (by kernel_rfl)) (by decide) (fun K hK => ?_)
           refine gg_ Try.func126 #[.pointer (some ⟨g, 0, none⟩), .int .i64 x602000_2] ?_
           with_reducible refine (spec_l6Rd_pick.calls kj50 g s0_0 t619 x602000_2 t620 t621 w0 _ ?side1 ?side2 A58.out).mono ?_
           (case side1 => exact IsS120.now)
           (case side2 => exact bn HB)
           rintro e w65 ⟨rfl, hi, hb, hk⟩
           refine ⟨_, rfl, ?_⟩
           replace HO_602001 := am (Kd.R_mono (Kd.R_keep (IsS120.apart (show IsS120 w0 _ g s0_0 t619 from IsS120.now) (onR HO_602001) (by decide)) hk (fun _ h => h.2)) (fun _ h => h.1))
           replace BK598 := am (KeepBut.blk hk (bkn BK598) NB598_0.out (by simp))
           replace BK601 := am (KeepBut.blk hk (bkn BK601) NB601_0.out (by simp))
           replace BK627 := am (KeepBut.blk hk (bkn BK627) NB627_0.out (by simp))
           replace HK := am (KeepBut.trans (kn HK) hk (.inl rfl))
           replace HB := am hb
           replace HI0 := am hi
           (try clear hb)
           (try clear hb2)
           (try clear hk)
           (try clear hi)
           refine hK.out _ _ ⟨(bc BK601 0), (bc BK601 1)⟩ (fun hHeld => ?_)
           clear hK K
           refine nz_ 76 ?_
           refine one_ (i := 9) (N := some 77) #[true, true, true, true, true, true, true, true, true, true, false, false, false, true, false, false] rfl rfl (one_of HT_.out (by kernel_rfl)) (by decide) (fun K hK => ?_)
           refine gg_ Try.func127 #[.agg #[.int .i64 x602000_2, .slice Ao61 x602001_2.length co61], .int .i64 t618, .int .i64 t620] ?_
           with_reducible refine (spec_NetAdd.calls kj50 x602000_2 _ _ x602001_2 t618 t620 t622 t623 true _ ?side1 ?side2 A59.out).mono ?_
           (case side1 => exact (Kd.R_reads' (onR HO_602001)).2.2)
           (case side2 => exact (Kd.R_reads' HO_602001.out).2.1)
           rintro e w66 ⟨v624, rfl, ho0, hb⟩
           refine ⟨_, rfl, ?_⟩
           have HO625 := am (Kd.R_lower (Kd.R_new' ho0 (Kd.R_lt (onR HO_602001))) (keep_size (w := w) (g := g) (row := none) (kn HK)))
           replace HO_602001 := am (Kd.R_elder' (onR HO_602001) (Kd.R_base ho0) hb)
           replace BK598 := bb BK598 hb
           replace BK601 := bb BK601 hb
           replace HI0 := am (IsS120.below (IsS120.now) hb)
           replace BK627 := bb BK627 hb
           replace HK := am (KeepBut.trans (kn HK) (KeepBut.of_below hb g none) (.inl rfl))
           replace HB := bs HB hb
           (try clear hb)
           (try clear hb2)
           (try clear hk)
           (try clear hi)
           (try clear ho0)
           refine hK.out _ _ ⟨(bc BK601 0), (bc BK601 1)⟩ (fun hHeld => ?_)
           clear hK K
           refine nz_ 77 ?_
           refine pz_ 10 (some 67) HT_ ?_
           refine pz_ 11 (some 78) HT_ ?_
           refine pz_ 12 (some 79) HT_ ?_
           exact norm_ (by simp only [putAll, Act.put, List.setIfInBounds_toArray, List.set_cons_zero, List.set_cons_succ]) (hCont (v624, gb627) _ ⟨hHeld, (by (with_reducible repeat (first | apply Kd.R_alloc | apply Kd.R_drewN | apply Kd.R_drew)); exact Kd.R_mono HO625.out (fun _ hk => hk.2)), (by (with_reducible repeat (first | apply Kd.R_alloc | apply Kd.R_drewN | apply Kd.R_drew)); exact Kd.R_mono HO_602001.out (fun _ hk => hk.2)), (bkn BK598), (bkn BK601), (bkn BK627), GW627.out, GE627.out, NB0_627.out, NB627_0.out, NB598_627.out, NB627_598.out, NB601_627.out, NB627_601.out, (IsS120.now), (kn HK), (bn HB)⟩)
         rintro ⟨v624, gb627⟩ w67 ⟨hS_, h0_, h1_, h2_, h3_, h4_, h5_, h6_, h7_, h8_, h9_, h10_, h11_, h12_, h13_, h14_, h15_⟩
         have n0_ : Aside0 (Kd.R k73 73 w67 w.heap.size (fun k_ => some k_ ≠ (.slice Ao61 x602001_2.length co61 : Value).ownBlock) v624 t623) := ⟨h0_⟩
         have n1_ : Aside0 (Kd.R k73 73 w67 w.heap.size (fun k_ => some k_ ≠ (v624 : Value).ownBlock) (.slice Ao61 x602001_2.length co61) x602001_2) := ⟨h1_⟩
         have n2_ : Aside0 (w67.heap[gb598]? = some (.cells #[.int .i64 0, .slice none 0 0] 34 (0, 0))) := ⟨h2_⟩
         have n3_ : Aside0 (w67.heap[gb601]? = some (.cells #[.int .i64 x602000_2, .slice Ao61 x602001_2.length co61] 34 (0, 0))) := ⟨h3_⟩
         have n4_ : Aside0 (w67.heap[gb627]? = some (.cells #[.int .i64 0, .slice none 0 0] 34 (0, 0))) := ⟨h4_⟩
         have n5_ : Aside0 (w.heap.size ≤ gb627) := ⟨h5_⟩
         have n6_ : Aside0 (w0.heap.size ≤ gb627) := ⟨h6_⟩
         have n7_ : Aside0 (g ≠ gb627) := ⟨h7_⟩
         have n8_ : Aside0 (gb627 ≠ g) := ⟨h8_⟩
         have n9_ : Aside0 (gb598 ≠ gb627) := ⟨h9_⟩
         have n10_ : Aside0 (gb627 ≠ gb598) := ⟨h10_⟩
         have n11_ : Aside0 (gb601 ≠ gb627) := ⟨h11_⟩
         have n12_ : Aside0 (gb627 ≠ gb601) := ⟨h12_⟩
         have n13_ : Aside0 (IsS120 w0 w67 g s0_0 t621) := ⟨h13_⟩
         have n14_ : Aside0 (KeepBut w w67 g none) := ⟨h14_⟩
         have n15_ : Aside0 (Below w0.heap.size w0 w67) := ⟨h15_⟩
         clear HO_602001 BK598 BK601 HI0 HK HB h0_ h1_ h2_ h3_ h4_ h5_ h6_ h7_ h8_ h9_ h10_ h11_ h12_ h13_ h14_ h15_
         have HO625 := n0_
         have HO_602001 := n1_
         have BK598 := n2_
         have BK601 := n3_
         have BK627 := n4_
         have GW627 := n5_
         have GE627 := n6_
         have NB0_627 := n7_
         have NB627_0 := n8_
         have NB598_627 := n9_
         have NB627_598 := n10_
         have NB601_627 := n11_
         have NB627_601 := n12_
         have HI0 := n13_
         have HK := n14_
         have HB := n15_
         clear n0_ n1_ n2_ n3_ n4_ n5_ n6_ n7_ n8_ n9_ n10_ n11_ n12_ n13_ n14_ n15_
         have hHeld : w67.cell? ⟨gb601, 0, none⟩ = some (.int .i64 x602000_2) ∧ w67.cell? ⟨gb601, 1, none⟩ = some (.slice Ao61 x602001_2.length co61) := hS_
         obtain ⟨Ao69, co69, eo69⟩ := Kd.R_slice HO625.out
         (first | subst eo69 | (injection eo69 with f1_ f2_ f3_; have f4_ := f1_.symm; have f5_ := f3_.symm; clear f1_ f2_ f3_; subst f4_; subst f5_))
         refine norm_ (a' := ?_) ?_ ?_
         rotate_left
         ·simp only [putAll, Act.put, List.setIfInBounds_toArray, List.set_cons_zero, List.set_cons_succ]
          rfl
         refine one_ (i := 14) (N := none) #[true, true, true, true, true, true, true, true, true, true, true, true, true, true, true, false] rfl rfl (one_of HT_.out (by kernel_rfl)) (by decide) (fun K hK => ?_)
         have hs68 := bc BK627 0
         have hfs68 := blk_frozen BK627.out 0
         have hns68_0 := NB598_627.out
         have hns68_1 := NB601_627.out
         have hms68_0 := NB627_598.out
         have hms68_1 := NB627_601.out
         have hs70 := bc BK627 1
         have hfs70 := blk_frozen BK627.out 1
         have hns70_0 := NB598_627.out
         have hns70_1 := NB601_627.out
         have hms70_0 := NB627_598.out
         have hms70_1 := NB627_601.out
         refine skip_ (w1 := ?_) (by rfl) rfl ?_ ?_
         rotate_left
         ·go_simp
          rfl
         refine hK.out _ _ ⟨((cell_far (p := ⟨gb627, _, none⟩) NB601_627.out _).trans (((cell_far (p := ⟨gb627, _, none⟩) NB601_627.out _).trans (hHeld.1)))), ((cell_far (p := ⟨gb627, _, none⟩) NB601_627.out _).trans (((cell_far (p := ⟨gb627, _, none⟩) NB601_627.out _).trans (hHeld.2))))⟩ (fun hHeld => ?_)
         clear hK K
         refine pz_ 15 (some 8) HT_ ?_
         refine done_ (done_of HT_.out (by kernel_rfl)) ?_
         obtain ⟨hnb71, hnc71⟩ := n2 NB627_598 NB598_627
         obtain ⟨hnb72, hnc72⟩ := n2 NB627_601 NB601_627
         obtain ⟨hnb73, hnc73⟩ := n2 NB627_0 NB0_627
         obtain ⟨hcz74_0, hcz74_1, hfz74_0, hfz74_1⟩ := c2 BK627
         obtain ⟨hnb75, hnc75⟩ := n2 NB601_598 NB598_601
         obtain ⟨hnb76, hnc76⟩ := n2 NB601_0 NB0_601
         obtain ⟨hcz77_0, hcz77_1, hfz77_0, hfz77_1⟩ := c2 BK601
         try go_wp2
         go_roundg kj50
         case measure => have := HJ3.out; have := HK2.out; have := HJ50.out; omega
         case rel => exact ⟨(wrap64 (x6_2 - 1)), (t621), (t622), (t623), (.slice Ao69 t623.length co69), (by first | rfl | (simp; done) | (simp [*]; done)), H', ⟨by have := HJ3.out; have := HK2.out; have := HJ50.out; omega⟩, ⟨by (with_reducible repeat (first | apply Kd.R_alloc | apply Kd.R_drewN | apply Kd.R_drew)); exact Kd.R_mono (Kd.R_far (p := ⟨gb601, 1, none⟩) (Kd.R_far (p := ⟨gb601, 0, none⟩) (Kd.R_far (p := ⟨gb627, 1, none⟩) (Kd.R_far (p := ⟨gb627, 0, none⟩) (Kd.R_types (Kd.R_types HO625.out BK627.out (by decide)) BK601.out (by decide)) (fun _ hk => hk.1.2) (.int .i64 t622)) (fun _ hk => hk.1.2) (.slice Ao69 t623.length co69)) (fun _ hk => hk.2) (.int .i64 t622)) (fun _ hk => hk.2) (.slice Ao69 t623.length co69)) (fun _ hk => trivial)⟩, ⟨bkn BK598⟩, ⟨by (with_reducible repeat (first | refine blk_drewN ?_ _ | refine blk_drew ?_ | refine blk_alloc ?_ _)); refine blk_put (cs := #[.int .i64 t622, .slice Ao61 x602001_2.length co61]) ?_ 1 _ rfl; (with_reducible repeat (first | refine blk_drewN ?_ _ | refine blk_drew ?_ | refine blk_alloc ?_ _)); refine blk_put (cs := #[.int .i64 x602000_2, .slice Ao61 x602001_2.length co61]) ?_ 0 _ rfl; (with_reducible repeat (first | refine blk_drewN ?_ _ | refine blk_drew ?_ | refine blk_alloc ?_ _)); refine blk_far ?_ NB601_627.out _; (with_reducible repeat (first | refine blk_drewN ?_ _ | refine blk_drew ?_ | refine blk_alloc ?_ _)); refine blk_far ?_ NB601_627.out _; (with_reducible repeat (first | refine blk_drewN ?_ _ | refine blk_drew ?_ | refine blk_alloc ?_ _)); exact BK601.out⟩, ⟨IsS120.now⟩, ⟨kn HK⟩, ⟨bn HB⟩⟩
        ·replace c60 := Bool.eq_false_iff.mpr c60
         subst c60
         rw [if_neg (show ¬ (false = true) by decide)] at H
         have H' := am H
         clear H
         obtain ⟨Ao78, co78, eo78⟩ := Kd.R_slice HO_602001.out
         subst eo78
         try go_wp2
         replace HO_602001 := am (Kd.R_drew HO_602001.out)
         replace BK598 := am (blk_drew BK598.out)
         replace BK601 := am (blk_drew BK601.out)
         replace HI0 := am (IsS120.drew HI0.out)
         replace HK := am (keep_drew HK.out)
         replace HB := am (below_drew1 HB.out)
         refine start_ (n := 16) (S := fun w' => w'.cell? ⟨gb601, 0, none⟩ = some (.int .i64 x602000_2) ∧ w'.cell? ⟨gb601, 1, none⟩ = some (.slice Ao78 x602001_2.length co78)) (ds := []) #[false, false, false, false, false, false, false, false, false, false, false, false, false, false, false, false] (by kernel_rfl) rfl rfl ⟨(bc BK601 0), (bc BK601 1)⟩ (fun hHeld => ?_); refine with_tabW spec_l71Net.tab16 spec_l71Net.bits16 (fun HT_ HW_ => ?_)
         generalize wc.drew = w79 at HO_602001 BK598 BK601 HI0 HK HB hHeld ⊢
         refine pz_ 1 (some 69) HT_ ?_
         refine pz_ 2 (some 70) HT_ ?_
         refine pz_ 5 (some 73) HT_ ?_
         refine pz_ 6 (some 74) HT_ ?_
         refine tz_ 0 (some 68) HT_ HW_ hHeld ?_
         refine tz_ 3 (some 71) HT_ HW_ hHeld ?_
         refine tz_ 7 (some 75) HT_ HW_ hHeld ?_
         refine join_ (σ := Value × Nat) 2 #[true, true, true, true, true, true, true, true, true, true, true, true, true, true, false, false] (fun s_ => [(72, .int .i64 t618), (76, .int .i64 t620), (77, .tuple #[.agg #[.int .i64 t622, s_.1], .bool false]), (7, .pointer (some ⟨s_.2, 0, none⟩)), (67, .tuple #[.agg #[.int .i64 t622, s_.1], .bool false]), (78, .agg #[.int .i64 t622, s_.1]), (79, .bool false)]) (fun s_ w' => (w'.cell? ⟨gb601, 0, none⟩ = some (.int .i64 x602000_2) ∧ w'.cell? ⟨gb601, 1, none⟩ = some (.slice Ao78 x602001_2.length co78)) ∧ (Kd.R k73 73 w' w.heap.size (fun k_ => some k_ ≠ (.slice Ao78 x602001_2.length co78 : Value).ownBlock) s_.1 t623) ∧ (Kd.R k73 73 w' w.heap.size (fun k_ => some k_ ≠ (s_.1 : Value).ownBlock) (.slice Ao78 x602001_2.length co78) x602001_2) ∧ (w'.heap[gb598]? = some (.cells #[.int .i64 0, .slice none 0 0] 34 (0, 0))) ∧ (w'.heap[gb601]? = some (.cells #[.int .i64 x602000_2, .slice Ao78 x602001_2.length co78] 34 (0, 0))) ∧ (w'.heap[s_.2]? = some (.cells #[.int .i64 0, .slice none 0 0] 34 (0, 0))) ∧ (w.heap.size ≤ s_.2) ∧ (w0.heap.size ≤ s_.2) ∧ (g ≠ s_.2) ∧ (s_.2 ≠ g) ∧ (gb598 ≠ s_.2) ∧ (s_.2 ≠ gb598) ∧ (gb601 ≠ s_.2) ∧ (s_.2 ≠ gb601) ∧ (IsS120 w0 w' g s0_0 t621) ∧ (KeepBut w w' g none) ∧ (Below w0.heap.size w0 w')) ?_ ?_
         rotate_left
         ·intro hCont
          refine two_ (i := 4) (j := 13) (Ni := some 72) (Nj := some 7) #[true, true, true, true, true, true, true, true, false, false, false, false, false, false, false, false] #[true, true, true, true, false, true, true, true, false, false, false, false, false, true, false, false] rfl rfl rfl rfl (two_of HT_.out (by kernel_rfl)) (by decide) (by decide) (fun K hK => ?_) (fun K hK => ?_)
          ·skip
           refine gg_ Try.func126 #[.pointer (some ⟨g, 0, none⟩), .int .i64 x602000_2] ?_
           with_reducible refine (spec_l6Rd_pick.calls kj50 g s0_0 x1001_2 x602000_2 t618 t619 w0 _ ?side1 ?side2 A57.out).mono ?_
           (case side1 => exact IsS120.now)
           (case side2 => exact bn HB)
           rintro e w80 ⟨rfl, hi, hb, hk⟩
           refine ⟨_, rfl, ?_⟩
           replace HO_602001 := am (Kd.R_mono (Kd.R_keep (IsS120.apart (show IsS120 w0 _ g s0_0 x1001_2 from IsS120.now) (onR HO_602001) (by decide)) hk (fun _ h => h.2)) (fun _ h => h.1))
           replace BK598 := am (KeepBut.blk hk (bkn BK598) NB598_0.out (by simp))
           replace BK601 := am (KeepBut.blk hk (bkn BK601) NB601_0.out (by simp))
           replace HK := am (KeepBut.trans (kn HK) hk (.inl rfl))
           replace HB := am hb
           replace HI0 := am hi
           (try clear hb)
           (try clear hb2)
           (try clear hk)
           (try clear hi)
           refine hK.out _ _ ⟨(bc BK601 0), (bc BK601 1)⟩ (fun hHeld => ?_)
           clear hK K
           refine nz_ 72 ?_
           refine two_ (i := 8) (j := 13) (Ni := some 76) (Nj := some 7) #[true, true, true, true, true, true, true, true, true, false, false, false, false, false, false, false] #[true, true, true, true, true, true, true, true, false, false, false, false, false, true, false, false] rfl rfl rfl rfl (two_of HT_.out (by kernel_rfl)) (by decide) (by decide) (fun K hK => ?_) (fun K hK => ?_)
           ·skip
            refine gg_ Try.func126 #[.pointer (some ⟨g, 0, none⟩), .int .i64 x602000_2] ?_
            with_reducible refine (spec_l6Rd_pick.calls kj50 g s0_0 t619 x602000_2 t620 t621 w0 _ ?side1 ?side2 A58.out).mono ?_
            (case side1 => exact IsS120.now)
            (case side2 => exact bn HB)
            rintro e w81 ⟨rfl, hi, hb, hk⟩
            refine ⟨_, rfl, ?_⟩
            replace HO_602001 := am (Kd.R_mono (Kd.R_keep (IsS120.apart (show IsS120 w0 _ g s0_0 t619 from IsS120.now) (onR HO_602001) (by decide)) hk (fun _ h => h.2)) (fun _ h => h.1))
            replace BK598 := am (KeepBut.blk hk (bkn BK598) NB598_0.out (by simp))
            replace BK601 := am (KeepBut.blk hk (bkn BK601) NB601_0.out (by simp))
            replace HK := am (KeepBut.trans (kn HK) hk (.inl rfl))
            replace HB := am hb
            replace HI0 := am hi
            (try clear hb)
            (try clear hb2)
            (try clear hk)
            (try clear hi)
            refine hK.out _ _ ⟨(bc BK601 0), (bc BK601 1)⟩ (fun hHeld => ?_)
            clear hK K
            refine nz_ 76 ?_
            refine two_ (i := 9) (j := 13) (Ni := some 77) (Nj := some 7) #[true, true, true, true, true, true, true, true, true, true, false, false, false, false, false, false] #[true, true, true, true, true, true, true, true, true, false, false, false, false, true, false, false] rfl rfl rfl rfl (two_of HT_.out (by kernel_rfl)) (by decide) (by decide) (fun K hK => ?_) (fun K hK => ?_)
            ·skip
             refine gg_ Try.func127 #[.agg #[.int .i64 x602000_2, .slice Ao78 x602001_2.length co78], .int .i64 t618, .int .i64 t620] ?_
             with_reducible refine (spec_NetAdd.calls kj50 x602000_2 _ _ x602001_2 t618 t620 t622 t623 false _ ?side1 ?side2 A59.out).mono ?_
             (case side1 => exact (Kd.R_reads' (onR HO_602001)).2.2)
             (case side2 => exact (Kd.R_reads' HO_602001.out).2.1)
             rintro e w82 ⟨v624, rfl, ho0, hb⟩
             refine ⟨_, rfl, ?_⟩
             have HO625 := am (Kd.R_lower (Kd.R_new' ho0 (Kd.R_lt (onR HO_602001))) (keep_size (w := w) (g := g) (row := none) (kn HK)))
             replace HO_602001 := am (Kd.R_elder' (onR HO_602001) (Kd.R_base ho0) hb)
             replace BK598 := bb BK598 hb
             replace BK601 := bb BK601 hb
             replace HI0 := am (IsS120.below (IsS120.now) hb)
             replace HK := am (KeepBut.trans (kn HK) (KeepBut.of_below hb g none) (.inl rfl))
             replace HB := bs HB hb
             (try clear hb)
             (try clear hb2)
             (try clear hk)
             (try clear hi)
             (try clear ho0)
             refine hK.out _ _ ⟨(bc BK601 0), (bc BK601 1)⟩ (fun hHeld => ?_)
             clear hK K
             refine nz_ 77 ?_
             refine pz_ 10 (some 67) HT_ ?_
             refine pz_ 11 (some 78) HT_ ?_
             refine pz_ 12 (some 79) HT_ ?_
             refine one_ (i := 13) (N := some 7) #[true, true, true, true, true, true, true, true, true, true, true, true, true, true, false, false] rfl rfl (one_of HT_.out (by kernel_rfl)) (by decide) (fun K hK => ?_)
             refine box_step ?hg (N := 7) ?hd (cs := #[.int .i64 0, .slice none 0 0]) (t := 34) ?hr ?_; (case hd => rfl); (case hg => rfl); (case hr => first | (go_simp; done) | (go_simp; rfl))
             intro gb627 hg w83 hbox hb
             have n0_ := am (Kd.R_below (onR HO_602001) hb)
             have n1_ := am (Kd.R_below (onR HO625) hb)
             have n2_ := bb BK598 hb
             have n3_ := bb BK601 hb
             have n4_ := am (IsS120.below (IsS120.now) hb)
             have n5_ := am (KeepBut.trans (kn HK) (KeepBut.of_below hb g none) (.inl rfl))
             have n6_ := bs HB hb
             have n7_ := am hbox
             have n8_ := am (gk_ hg HK)
             have n9_ := am (Nat.le_trans HW0.out (gk_ hg HK) : w0.heap.size ≤ gb627)
             have n10_ := am ((by rw [hg]; exact Nat.ne_of_lt (blk_lt (bkn BK598)) : gb598 ≠ gb627))
             have n11_ := am ((by rw [hg]; exact Nat.ne_of_gt (blk_lt (bkn BK598)) : gb627 ≠ gb598))
             have n12_ := am ((by rw [hg]; exact Nat.ne_of_lt (blk_lt (bkn BK601)) : gb601 ≠ gb627))
             have n13_ := am ((by rw [hg]; exact Nat.ne_of_gt (blk_lt (bkn BK601)) : gb627 ≠ gb601))
             have n14_ := am ((by rw [hg]; exact Nat.ne_of_lt (IsS120.lt (show IsS120 w0 _ g s0_0 t621 from IsS120.now)) : g ≠ gb627))
             have n15_ := am ((by rw [hg]; exact Nat.ne_of_gt (IsS120.lt (show IsS120 w0 _ g s0_0 t621 from IsS120.now)) : gb627 ≠ g))
             clear HO_602001 HO625 BK598 BK601 HI0 HK HB
             have HO_602001 := n0_
             have HO625 := n1_
             have BK598 := n2_
             have BK601 := n3_
             have HI0 := n4_
             have HK := n5_
             have HB := n6_
             have BK627 := n7_
             have GW627 := n8_
             have GE627 := n9_
             have NB598_627 := n10_
             have NB627_598 := n11_
             have NB601_627 := n12_
             have NB627_601 := n13_
             have NB0_627 := n14_
             have NB627_0 := n15_
             clear n0_ n1_ n2_ n3_ n4_ n5_ n6_ n7_ n8_ n9_ n10_ n11_ n12_ n13_ n14_ n15_ hb hbox hg
             refine hK.out _ _ ⟨(bc BK601 0), (bc BK601 1)⟩ (fun hHeld => ?_)
             clear hK K
             refine nz_ 7 ?_
             exact norm_ (by simp only [putAll, Act.put, List.setIfInBounds_toArray, List.set_cons_zero, List.set_cons_succ]) (hCont (v624, gb627) _ ⟨hHeld, (by (with_reducible repeat (first | apply Kd.R_alloc | apply Kd.R_drewN | apply Kd.R_drew)); exact Kd.R_mono HO625.out (fun _ hk => hk.2)), (by (with_reducible repeat (first | apply Kd.R_alloc | apply Kd.R_drewN | apply Kd.R_drew)); exact Kd.R_mono HO_602001.out (fun _ hk => hk.2)), (bkn BK598), (bkn BK601), (bkn BK627), GW627.out, GE627.out, NB0_627.out, NB627_0.out, NB598_627.out, NB627_598.out, NB601_627.out, NB627_601.out, (IsS120.now), (kn HK), (bn HB)⟩)
            ·skip
             refine box_step ?hg (N := 7) ?hd (cs := #[.int .i64 0, .slice none 0 0]) (t := 34) ?hr ?_; (case hd => rfl); (case hg => rfl); (case hr => first | (go_simp; done) | (go_simp; rfl))
             intro gb627 hg w82 hbox hb
             have n0_ := am (Kd.R_below (onR HO_602001) hb)
             have n1_ := bb BK598 hb
             have n2_ := bb BK601 hb
             have n3_ := am (IsS120.below (IsS120.now) hb)
             have n4_ := am (KeepBut.trans (kn HK) (KeepBut.of_below hb g none) (.inl rfl))
             have n5_ := bs HB hb
             have n6_ := am hbox
             have n7_ := am (gk_ hg HK)
             have n8_ := am (Nat.le_trans HW0.out (gk_ hg HK) : w0.heap.size ≤ gb627)
             have n9_ := am ((by rw [hg]; exact Nat.ne_of_lt (blk_lt (bkn BK598)) : gb598 ≠ gb627))
             have n10_ := am ((by rw [hg]; exact Nat.ne_of_gt (blk_lt (bkn BK598)) : gb627 ≠ gb598))
             have n11_ := am ((by rw [hg]; exact Nat.ne_of_lt (blk_lt (bkn BK601)) : gb601 ≠ gb627))
             have n12_ := am ((by rw [hg]; exact Nat.ne_of_gt (blk_lt (bkn BK601)) : gb627 ≠ gb601))
             have n13_ := am ((by rw [hg]; exact Nat.ne_of_lt (IsS120.lt (show IsS120 w0 _ g s0_0 t621 from IsS120.now)) : g ≠ gb627))
             have n14_ := am ((by rw [hg]; exact Nat.ne_of_gt (IsS120.lt (show IsS120 w0 _ g s0_0 t621 from IsS120.now)) : gb627 ≠ g))
             clear HO_602001 BK598 BK601 HI0 HK HB
             have HO_602001 := n0_
             have BK598 := n1_
             have BK601 := n2_
             have HI0 := n3_
             have HK := n4_
             have HB := n5_
             have BK627 := n6_
             have GW627 := n7_
             have GE627 := n8_
             have NB598_627 := n9_
             have NB627_598 := n10_
             have NB601_627 := n11_
             have NB627_601 := n12_
             have NB0_627 := n13_
             have NB627_0 := n14_
             clear n0_ n1_ n2_ n3_ n4_ n5_ n6_ n7_ n8_ n9_ n10_ n11_ n12_ n13_ n14_ hb hbox hg
             refine hK.out _ _ ⟨(bc BK601 0), (bc BK601 1)⟩ (fun hHeld => ?_)
             clear hK K
             refine nz_ 7 ?_
             refine one_ (i := 9) (N := some 77) #[true, true, true, true, true, true, true, true, true, true, false, false, false, true, false, false] rfl rfl (one_of HT_.out (by kernel_rfl)) (by decide) (fun K hK => ?_)
             refine gg_ Try.func127 #[.agg #[.int .i64 x602000_2, .slice Ao78 x602001_2.length co78], .int .i64 t618, .int .i64 t620] ?_
             with_reducible refine (spec_NetAdd.calls kj50 x602000_2 _ _ x602001_2 t618 t620 t622 t623 false _ ?side1 ?side2 A59.out).mono ?_
             (case side1 => exact (Kd.R_reads' (onR HO_602001)).2.2)
             (case side2 => exact (Kd.R_reads' HO_602001.out).2.1)
             rintro e w83 ⟨v624, rfl, ho0, hb⟩
             refine ⟨_, rfl, ?_⟩
             have HO625 := am (Kd.R_lower (Kd.R_new' ho0 (Kd.R_lt (onR HO_602001))) (keep_size (w := w) (g := g) (row := none) (kn HK)))
             replace HO_602001 := am (Kd.R_elder' (onR HO_602001) (Kd.R_base ho0) hb)
             replace BK598 := bb BK598 hb
             replace BK601 := bb BK601 hb
             replace HI0 := am (IsS120.below (IsS120.now) hb)
             replace BK627 := bb BK627 hb
             replace HK := am (KeepBut.trans (kn HK) (KeepBut.of_below hb g none) (.inl rfl))
             replace HB := bs HB hb
             (try clear hb)
             (try clear hb2)
             (try clear hk)
             (try clear hi)
             (try clear ho0)
             refine hK.out _ _ ⟨(bc BK601 0), (bc BK601 1)⟩ (fun hHeld => ?_)
             clear hK K
             refine nz_ 77 ?_
             refine pz_ 10 (some 67) HT_ ?_
             refine pz_ 11 (some 78) HT_ ?_
             refine pz_ 12 (some 79) HT_ ?_
             exact norm_ (by simp only [putAll, Act.put, List.setIfInBounds_toArray, List.set_cons_zero, List.set_cons_succ]) (hCont (v624, gb627) _ ⟨hHeld, (by (with_reducible repeat (first | apply Kd.R_alloc | apply Kd.R_drewN | apply Kd.R_drew)); exact Kd.R_mono HO625.out (fun _ hk => hk.2)), (by (with_reducible repeat (first | apply Kd.R_alloc | apply Kd.R_drewN | apply Kd.R_drew)); exact Kd.R_mono HO_602001.out (fun _ hk => hk.2)), (bkn BK598), (bkn BK601), (bkn BK627), GW627.out, GE627.out, NB0_627.out, NB627_0.out, NB598_627.out, NB627_598.out, NB601_627.out, NB627_601.out, (IsS120.now), (kn HK), (bn HB)⟩)
           ·skip
            refine box_step ?hg (N := 7) ?hd (cs := #[.int .i64 0, .slice none 0 0]) (t := 34) ?hr ?_; (case hd => rfl); (case hg => rfl); (case hr => first | (go_simp; done) | (go_simp; rfl))
            intro gb627 hg w81 hbox hb
            have n0_ := am (Kd.R_below (onR HO_602001) hb)
            have n1_ := bb BK598 hb
            have n2_ := bb BK601 hb
            have n3_ := am (IsS120.below (IsS120.now) hb)
            have n4_ := am (KeepBut.trans (kn HK) (KeepBut.of_below hb g none) (.inl rfl))
            have n5_ := bs HB hb
            have n6_ := am hbox
            have n7_ := am (gk_ hg HK)
            have n8_ := am (Nat.le_trans HW0.out (gk_ hg HK) : w0.heap.size ≤ gb627)
            have n9_ := am ((by rw [hg]; exact Nat.ne_of_lt (blk_lt (bkn BK598)) : gb598 ≠ gb627))
            have n10_ := am ((by rw [hg]; exact Nat.ne_of_gt (blk_lt (bkn BK598)) : gb627 ≠ gb598))
            have n11_ := am ((by rw [hg]; exact Nat.ne_of_lt (blk_lt (bkn BK601)) : gb601 ≠ gb627))
            have n12_ := am ((by rw [hg]; exact Nat.ne_of_gt (blk_lt (bkn BK601)) : gb627 ≠ gb601))
            have n13_ := am ((by rw [hg]; exact Nat.ne_of_lt (IsS120.lt (show IsS120 w0 _ g s0_0 t619 from IsS120.now)) : g ≠ gb627))
            have n14_ := am ((by rw [hg]; exact Nat.ne_of_gt (IsS120.lt (show IsS120 w0 _ g s0_0 t619 from IsS120.now)) : gb627 ≠ g))
            clear HO_602001 BK598 BK601 HI0 HK HB
            have HO_602001 := n0_
            have BK598 := n1_
            have BK601 := n2_
            have HI0 := n3_
            have HK := n4_
            have HB := n5_
            have BK627 := n6_
            have GW627 := n7_
            have GE627 := n8_
            have NB598_627 := n9_
            have NB627_598 := n10_
            have NB601_627 := n11_
            have NB627_601 := n12_
            have NB0_627 := n13_
            have NB627_0 := n14_
            clear n0_ n1_ n2_ n3_ n4_ n5_ n6_ n7_ n8_ n9_ n10_ n11_ n12_ n13_ n14_ hb hbox hg
            refine hK.out _ _ ⟨(bc BK601 0), (bc BK601 1)⟩ (fun hHeld => ?_)
            clear hK K
            refine nz_ 7 ?_
            refine one_ (i := 8) (N := some 76) #[true, true, true, true, true, true, true, true, true, false, false, false, false, true, false, false] rfl rfl (one_of HT_.out (by kernel_rfl)) (by decide) (fun K hK => ?_)
            refine gg_ Try.func126 #[.pointer (some ⟨g, 0, none⟩), .int .i64 x602000_2] ?_
            with_reducible refine (spec_l6Rd_pick.calls kj50 g s0_0 t619 x602000_2 t620 t621 w0 _ ?side1 ?side2 A58.out).mono ?_
            (case side1 => exact IsS120.now)
            (case side2 => exact bn HB)
            rintro e w82 ⟨rfl, hi, hb, hk⟩
            refine ⟨_, rfl, ?_⟩
            replace HO_602001 := am (Kd.R_mono (Kd.R_keep (IsS120.apart (show IsS120 w0 _ g s0_0 t619 from IsS120.now) (onR HO_602001) (by decide)) hk (fun _ h => h.2)) (fun _ h => h.1))
            replace BK598 := am (KeepBut.blk hk (bkn BK598) NB598_0.out (by simp))
            replace BK601 := am (KeepBut.blk hk (bkn BK601) NB601_0.out (by simp))
            replace BK627 := am (KeepBut.blk hk (bkn BK627) NB627_0.out (by simp))
            replace HK := am (KeepBut.trans (kn HK) hk (.inl rfl))
            replace HB := am hb
            replace HI0 := am hi
            (try clear hb)
            (try clear hb2)
            (try clear hk)
            (try clear hi)
            refine hK.out _ _ ⟨(bc BK601 0), (bc BK601 1)⟩ (fun hHeld => ?_)
            clear hK K
            refine nz_ 76 ?_
            refine one_ (i := 9) (N := some 77) #[true, true, true, true, true, true, true, true, true, true, false, false, false, true, false, false] rfl rfl (one_of HT_.out (by kernel_rfl)) (by decide) (fun K hK => ?_)
            refine gg_ Try.func127 #[.agg #[.int .i64 x602000_2, .slice Ao78 x602001_2.length co78], .int .i64 t618, .int .i64 t620] ?_
            with_reducible refine (spec_NetAdd.calls kj50 x602000_2 _ _ x602001_2 t618 t620 t622 t623 false _ ?side1 ?side2 A59.out).mono ?_
            (case side1 => exact (Kd.R_reads' (onR HO_602001)).2.2)
            (case side2 => exact (Kd.R_reads' HO_602001.out).2.1)
            rintro e w83 ⟨v624, rfl, ho0, hb⟩
            refine ⟨_, rfl, ?_⟩
            have HO625 := am (Kd.R_lower (Kd.R_new' ho0 (Kd.R_lt (onR HO_602001))) (keep_size (w := w) (g := g) (row := none) (kn HK)))
            replace HO_602001 := am (Kd.R_elder' (onR HO_602001) (Kd.R_base ho0) hb)
            replace BK598 := bb BK598 hb
            replace BK601 := bb BK601 hb
            replace HI0 := am (IsS120.below (IsS120.now) hb)
            replace BK627 := bb BK627 hb
            replace HK := am (KeepBut.trans (kn HK) (KeepBut.of_below hb g none) (.inl rfl))
            replace HB := bs HB hb
            (try clear hb)
            (try clear hb2)
            (try clear hk)
            (try clear hi)
            (try clear ho0)
            refine hK.out _ _ ⟨(bc BK601 0), (bc BK601 1)⟩ (fun hHeld => ?_)
            clear hK K
            refine nz_ 77 ?_
            refine pz_ 10 (some 67) HT_ ?_
            refine pz_ 11 (some 78) HT_ ?_
            refine pz_ 12 (some 79) HT_ ?_
            exact norm_ (by simp only [putAll, Act.put, List.setIfInBounds_toArray, List.set_cons_zero, List.set_cons_succ]) (hCont (v624, gb627) _ ⟨hHeld, (by (with_reducible repeat (first | apply Kd.R_alloc | apply Kd.R_drewN | apply Kd.R_drew)); exact Kd.R_mono HO625.out (fun _ hk => hk.2)), (by (with_reducible repeat (first | apply Kd.R_alloc | apply Kd.R_drewN | apply Kd.R_drew)); exact Kd.R_mono HO_602001.out (fun _ hk => hk.2)), (bkn BK598), (bkn BK601), (bkn BK627), GW627.out, GE627.out, NB0_627.out, NB627_0.out, NB598_627.out, NB627_598.out, NB601_627.out, NB627_601.out, (IsS120.now), (kn HK), (bn HB)⟩)
          ·skip
           refine box_step ?hg (N := 7) ?hd (cs := #[.int .i64 0, .slice none 0 0]) (t := 34) ?hr ?_; (case hd => rfl); (case hg => rfl); (case hr => first | (go_simp; done) | (go_simp; rfl))
           intro gb627 hg w80 hbox hb
           have n0_ := am (Kd.R_below (onR HO_602001) hb)
           have n1_ := bb BK598 hb
           have n2_ := bb BK601 hb
           have n3_ := am (IsS120.below (IsS120.now) hb)
           have n4_ := am (KeepBut.trans (kn HK) (KeepBut.of_below hb g none) (.inl rfl))
           have n5_ := bs HB hb
           have n6_ := am hbox
           have n7_ := am (gk_ hg HK)
           have n8_ := am (Nat.le_trans HW0.out (gk_ hg HK) : w0.heap.size ≤ gb627)
           have n9_ := am ((by rw [hg]; exact Nat.ne_of_lt (blk_lt (bkn BK598)) : gb598 ≠ gb627))
           have n10_ := am ((by rw [hg]; exact Nat.ne_of_gt (blk_lt (bkn BK598)) : gb627 ≠ gb598))
           have n11_ := am ((by rw [hg]; exact Nat.ne_of_lt (blk_lt (bkn BK601)) : gb601 ≠ gb627))
           have n12_ := am ((by rw [hg]; exact Nat.ne_of_gt (blk_lt (bkn BK601)) : gb627 ≠ gb601))
           have n13_ := am ((by rw [hg]; exact Nat.ne_of_lt (IsS120.lt (show IsS120 w0 _ g s0_0 x1001_2 from IsS120.now)) : g ≠ gb627))
           have n14_ := am ((by rw [hg]; exact Nat.ne_of_gt (IsS120.lt (show IsS120 w0 _ g s0_0 x1001_2 from IsS120.now)) : gb627 ≠ g))
           clear HO_602001 BK598 BK601 HI0 HK HB
           have HO_602001 := n0_
           have BK598 := n1_
           have BK601 := n2_
           have HI0 := n3_
           have HK := n4_
           have HB := n5_
           have BK627 := n6_
           have GW627 := n7_
           have GE627 := n8_
           have NB598_627 := n9_
           have NB627_598 := n10_
           have NB601_627 := n11_
           have NB627_601 := n12_
           have NB0_627 := n13_
           have NB627_0 := n14_
           clear n0_ n1_ n2_ n3_ n4_ n5_ n6_ n7_ n8_ n9_ n10_ n11_ n12_ n13_ n14_ hb hbox hg
           refine hK.out _ _ ⟨(bc BK601 0), (bc BK601 1)⟩ (fun hHeld => ?_)
           clear hK K
           refine nz_ 7 ?_
           refine one_ (i := 4) (N := some 72) #[true, true, true, true, true, true, true, true, false, false, false, false, false, true, false, false] rfl rfl (one_of HT_.out (by kernel_rfl)) (by decide) (fun K hK => ?_)
           refine gg_ Try.func126 #[.pointer (some ⟨g, 0, none⟩), .int .i64 x602000_2] ?_
           with_reducible refine (spec_l6Rd_pick.calls kj50 g s0_0 x1001_2 x602000_2 t618 t619 w0 _ ?side1 ?side2 A57.out).mono ?_
           (case side1 => exact IsS120.now)
           (case side2 => exact bn HB)
           rintro e w81 ⟨rfl, hi, hb, hk⟩
           refine ⟨_, rfl, ?_⟩
           replace HO_602001 := am (Kd.R_mono (Kd.R_keep (IsS120.apart (show IsS120 w0 _ g s0_0 x1001_2 from IsS120.now) (onR HO_602001) (by decide)) hk (fun _ h => h.2)) (fun _ h => h.1))
           replace BK598 := am (KeepBut.blk hk (bkn BK598) NB598_0.out (by simp))
           replace BK601 := am (KeepBut.blk hk (bkn BK601) NB601_0.out (by simp))
           replace BK627 := am (KeepBut.blk hk (bkn BK627) NB627_0.out (by simp))
           replace HK := am (KeepBut.trans (kn HK) hk (.inl rfl))
           replace HB := am hb
           replace HI0 := am hi
           (try clear hb)
           (try clear hb2)
           (try clear hk)
           (try clear hi)
           refine hK.out _ _ ⟨(bc BK601 0), (bc BK601 1)⟩ (fun hHeld => ?_)
           clear hK K
           refine nz_ 72 ?_
           refine one_ (i := 8) (N := some 76) #[true, true, true, true, true, true, true, true, true, false, false, false, false, true, false, false] rfl rfl (one_of HT_.out (by kernel_rfl)) (by decide) (fun K hK => ?_)
           refine gg_ Try.func126 #[.pointer (some ⟨g, 0, none⟩), .int .i64 x602000_2] ?_
           with_reducible refine (spec_l6Rd_pick.calls kj50 g s0_0 t619 x602000_2 t620 t621 w0 _ ?side1 ?side2 A58.out).mono ?_
           (case side1 => exact IsS120.now)
           (case side2 => exact bn HB)
           rintro e w82 ⟨rfl, hi, hb, hk⟩
           refine ⟨_, rfl, ?_⟩
           replace HO_602001 := am (Kd.R_mono (Kd.R_keep (IsS120.apart (show IsS120 w0 _ g s0_0 t619 from IsS120.now) (onR HO_602001) (by decide)) hk (fun _ h => h.2)) (fun _ h => h.1))
           replace BK598 := am (KeepBut.blk hk (bkn BK598) NB598_0.out (by simp))
           replace BK601 := am (KeepBut.blk hk (bkn BK601) NB601_0.out (by simp))
           replace BK627 := am (KeepBut.blk hk (bkn BK627) NB627_0.out (by simp))
           replace HK := am (KeepBut.trans (kn HK) hk (.inl rfl))
           replace HB := am hb
           replace HI0 := am hi
           (try clear hb)
           (try clear hb2)
           (try clear hk)
           (try clear hi)
           refine hK.out _ _ ⟨(bc BK601 0), (bc BK601 1)⟩ (fun hHeld => ?_)
           clear hK K
           refine nz_ 76 ?_
           refine one_ (i := 9) (N := some 77) #[true, true, true, true, true, true, true, true, true, true, false, false, false, true, false, false] rfl rfl (one_of HT_.out (by kernel_rfl)) (by decide) (fun K hK => ?_)
           refine gg_ Try.func127 #[.agg #[.int .i64 x602000_2, .slice Ao78 x602001_2.length co78], .int .i64 t618, .int .i64 t620] ?_
           with_reducible refine (spec_NetAdd.calls kj50 x602000_2 _ _ x602001_2 t618 t620 t622 t623 false _ ?side1 ?side2 A59.out).mono ?_
           (case side1 => exact (Kd.R_reads' (onR HO_602001)).2.2)
           (case side2 => exact (Kd.R_reads' HO_602001.out).2.1)
           rintro e w83 ⟨v624, rfl, ho0, hb⟩
           refine ⟨_, rfl, ?_⟩
           have HO625 := am (Kd.R_lower (Kd.R_new' ho0 (Kd.R_lt (onR HO_602001))) (keep_size (w := w) (g := g) (row := none) (kn HK)))
           replace HO_602001 := am (Kd.R_elder' (onR HO_602001) (Kd.R_base ho0) hb)
           replace BK598 := bb BK598 hb
           replace BK601 := bb BK601 hb
           replace HI0 := am (IsS120.below (IsS120.now) hb)
           replace BK627 := bb BK627 hb
           replace HK := am (KeepBut.trans (kn HK) (KeepBut.of_below hb g none) (.inl rfl))
           replace HB := bs HB hb
           (try clear hb)
           (try clear hb2)
           (try clear hk)
           (try clear hi)
           (try clear ho0)
           refine hK.out _ _ ⟨(bc BK601 0), (bc BK601 1)⟩ (fun hHeld => ?_)
           clear hK K
           refine nz_ 77 ?_
           refine pz_ 10 (some 67) HT_ ?_
           refine pz_ 11 (some 78) HT_ ?_
           refine pz_ 12 (some 79) HT_ ?_
           exact norm_ (by simp only [putAll, Act.put, List.setIfInBounds_toArray, List.set_cons_zero, List.set_cons_succ]) (hCont (v624, gb627) _ ⟨hHeld, (by (with_reducible repeat (first | apply Kd.R_alloc | apply Kd.R_drewN | apply Kd.R_drew)); exact Kd.R_mono HO625.out (fun _ hk => hk.2)), (by (with_reducible repeat (first | apply Kd.R_alloc | apply Kd.R_drewN | apply Kd.R_drew)); exact Kd.R_mono HO_602001.out (fun _ hk => hk.2)), (bkn BK598), (bkn BK601), (bkn BK627), GW627.out, GE627.out, NB0_627.out, NB627_0.out, NB598_627.out, NB627_598.out, NB601_627.out, NB627_601.out, (IsS120.now), (kn HK), (bn HB)⟩)
         rintro ⟨v624, gb627⟩ w84 ⟨hS_, h0_, h1_, h2_, h3_, h4_, h5_, h6_, h7_, h8_, h9_, h10_, h11_, h12_, h13_, h14_, h15_⟩
         have n0_ : Aside0 (Kd.R k73 73 w84 w.heap.size (fun k_ => some k_ ≠ (.slice Ao78 x602001_2.length co78 : Value).ownBlock) v624 t623) := ⟨h0_⟩
         have n1_ : Aside0 (Kd.R k73 73 w84 w.heap.size (fun k_ => some k_ ≠ (v624 : Value).ownBlock) (.slice Ao78 x602001_2.length co78) x602001_2) := ⟨h1_⟩
         have n2_ : Aside0 (w84.heap[gb598]? = some (.cells #[.int .i64 0, .slice none 0 0] 34 (0, 0))) := ⟨h2_⟩
         have n3_ : Aside0 (w84.heap[gb601]? = some (.cells #[.int .i64 x602000_2, .slice Ao78 x602001_2.length co78] 34 (0, 0))) := ⟨h3_⟩
         have n4_ : Aside0 (w84.heap[gb627]? = some (.cells #[.int .i64 0, .slice none 0 0] 34 (0, 0))) := ⟨h4_⟩
         have n5_ : Aside0 (w.heap.size ≤ gb627) := ⟨h5_⟩
         have n6_ : Aside0 (w0.heap.size ≤ gb627) := ⟨h6_⟩
         have n7_ : Aside0 (g ≠ gb627) := ⟨h7_⟩
         have n8_ : Aside0 (gb627 ≠ g) := ⟨h8_⟩
         have n9_ : Aside0 (gb598 ≠ gb627) := ⟨h9_⟩
         have n10_ : Aside0 (gb627 ≠ gb598) := ⟨h10_⟩
         have n11_ : Aside0 (gb601 ≠ gb627) := ⟨h11_⟩
         have n12_ : Aside0 (gb627 ≠ gb601) := ⟨h12_⟩
         have n13_ : Aside0 (IsS120 w0 w84 g s0_0 t621) := ⟨h13_⟩
         have n14_ : Aside0 (KeepBut w w84 g none) := ⟨h14_⟩
         have n15_ : Aside0 (Below w0.heap.size w0 w84) := ⟨h15_⟩
         clear HO_602001 BK598 BK601 HI0 HK HB h0_ h1_ h2_ h3_ h4_ h5_ h6_ h7_ h8_ h9_ h10_ h11_ h12_ h13_ h14_ h15_
         have HO625 := n0_
         have HO_602001 := n1_
         have BK598 := n2_
         have BK601 := n3_
         have BK627 := n4_
         have GW627 := n5_
         have GE627 := n6_
         have NB0_627 := n7_
         have NB627_0 := n8_
         have NB598_627 := n9_
         have NB627_598 := n10_
         have NB601_627 := n11_
         have NB627_601 := n12_
         have HI0 := n13_
         have HK := n14_
         have HB := n15_
         clear n0_ n1_ n2_ n3_ n4_ n5_ n6_ n7_ n8_ n9_ n10_ n11_ n12_ n13_ n14_ n15_
         have hHeld : w84.cell? ⟨gb601, 0, none⟩ = some (.int .i64 x602000_2) ∧ w84.cell? ⟨gb601, 1, none⟩ = some (.slice Ao78 x602001_2.length co78) := hS_
         obtain ⟨Ao86, co86, eo86⟩ := Kd.R_slice HO625.out
         (first | subst eo86 | (injection eo86 with f1_ f2_ f3_; have f4_ := f1_.symm; have f5_ := f3_.symm; clear f1_ f2_ f3_; subst f4_; subst f5_))
         refine norm_ (a' := ?_) ?_ ?_
         rotate_left
         ·simp only [putAll, Act.put, List.setIfInBounds_toArray, List.set_cons_zero, List.set_cons_succ]
          rfl
         refine one_ (i := 14) (N := none) #[true, true, true, true, true, true, true, true, true, true, true, true, true, true, true, false] rfl rfl (one_of HT_.out (by kernel_rfl)) (by decide) (fun K hK => ?_)
         have hs85 := bc BK627 0
         have hfs85 := blk_frozen BK627.out 0
         have hns85_0 := NB598_627.out
         have hns85_1 := NB601_627.out
         have hms85_0 := NB627_598.out
         have hms85_1 := NB627_601.out
         have hs87 := bc BK627 1
         have hfs87 := blk_frozen BK627.out 1
         have hns87_0 := NB598_627.out
         have hns87_1 := NB601_627.out
         have hms87_0 := NB627_598.out
         have hms87_1 := NB627_601.out
         refine skip_ (w1 := ?_) (by rfl) rfl ?_ ?_
         rotate_left
         ·go_simp
          rfl
         refine hK.out _ _ ⟨((cell_far (p := ⟨gb627, _, none⟩) NB601_627.out _).trans (((cell_far (p := ⟨gb627, _, none⟩) NB601_627.out _).trans (hHeld.1)))), ((cell_far (p := ⟨gb627, _, none⟩) NB601_627.out _).trans (((cell_far (p := ⟨gb627, _, none⟩) NB601_627.out _).trans (hHeld.2))))⟩ (fun hHeld => ?_)
         clear hK K
         refine pz_ 15 (some 8) HT_ ?_
         refine done_ (done_of HT_.out (by kernel_rfl)) ?_
         try go_wp2
         go_roundg kj50
         case measure => have := HJ3.out; have := HK2.out; have := HJ50.out; omega
         case rel => exact ⟨(wrap64 (x6_2 - 1)), (t621), (x602000_2), (x602001_2), (.slice Ao78 x602001_2.length co78), (by first | rfl | (simp; done) | (simp [*]; done)), H', ⟨by have := HJ3.out; have := HK2.out; have := HJ50.out; omega⟩, ⟨by (with_reducible repeat (first | apply Kd.R_alloc | apply Kd.R_drewN | apply Kd.R_drew)); exact Kd.R_mono (Kd.R_far (p := ⟨gb627, 1, none⟩) (Kd.R_far (p := ⟨gb627, 0, none⟩) (Kd.R_types HO_602001.out BK627.out (by decide)) (fun _ hk => hk.2) (.int .i64 t622)) (fun _ hk => hk.2) (.slice Ao86 t623.length co86)) (fun _ hk => trivial)⟩, ⟨bkn BK598⟩, ⟨bkn BK601⟩, ⟨IsS120.now⟩, ⟨kn HK⟩, ⟨bn HB⟩⟩
       ·replace c56 := Bool.eq_false_iff.mpr c56
        subst c56
        rw [if_neg (show ¬ (false = true) by decide)] at H
        simp only [Option.some.injEq, Prod.mk.injEq] at H
        obtain ⟨rfl, rfl, rfl⟩ := H
        obtain ⟨hnb88, hnc88⟩ := n2 NB601_598 NB598_601
        obtain ⟨hnb89, hnc89⟩ := n2 NB601_0 NB0_601
        obtain ⟨hcz90_0, hcz90_1, hfz90_0, hfz90_1⟩ := c2 BK601
        obtain ⟨hnb91, hnc91⟩ := n2 NB598_0 NB0_598
        obtain ⟨hcz92_0, hcz92_1, hfz92_0, hfz92_1⟩ := c2 BK598
        obtain ⟨Ao93, co93, eo93⟩ := Kd.R_slice HO_602001.out
        subst eo93
        go_wp2
        refine bodyPost_ret (results_cell_row rfl _ _ gb598 34 #[.int .i64 x602000_2, .slice Ao93 x602001_2.length co93] (0, 0) _ rfl (by (with_reducible repeat (first | refine blk_drewN ?_ _ | refine blk_drew ?_ | refine blk_alloc ?_ _)); refine blk_put (cs := #[.int .i64 x602000_2, .slice none 0 0]) ?_ 1 _ rfl; (with_reducible repeat (first | refine blk_drewN ?_ _ | refine blk_drew ?_ | refine blk_alloc ?_ _)); refine blk_put (cs := #[.int .i64 0, .slice none 0 0]) ?_ 0 _ rfl; (with_reducible repeat (first | refine blk_drewN ?_ _ | refine blk_drew ?_ | refine blk_alloc ?_ _)); exact BK598.out) Try.underlying34 rfl (by kernel_rfl)) rfl ?_
        exact ⟨_, by first | rfl | (simp [errW_none, errW_some] <;> rfl) | (simp [*, errW_none, errW_some] <;> rfl), by (with_reducible repeat (first | apply Kd.R_alloc | apply Kd.R_drewN | apply Kd.R_drew)); exact Kd.R_mono (Kd.R_far (p := ⟨gb598, 1, none⟩) (Kd.R_far (p := ⟨gb598, 0, none⟩) (Kd.R_types HO_602001.out BK598.out (by decide)) (fun _ hk => hk.2) (.int .i64 x602000_2)) (fun _ hk => hk.2) (.slice Ao93 x602001_2.length co93)) (fun _ hk => trivial), IsS120.now, bn HB, kn HK⟩

end Go.Proofs.Ytdlnnjgjfngccaa.F
