-- Written by oprint.py (wip/tools) over the kit's print program, for this seat.
import Derived.Test.YtdlnnjgjfngccaaF0
import Derived.Test.YtdlnnjgjfngccaaF34
import Derived.Test.YtdlnnjgjfngccaaF41
namespace Go.Proofs.Ytdlnnjgjfngccaa.F
open Go.RowKit Go.Proofs.YtdlnnjgjfngccaaW.PrintWords Go.Proofs.YtdlnnjgjfngccaaW.PrintLast Go.Proofs.YtdlnnjgjfngccaaW.PrintMore
attribute [local go_sem] max2_int min2_int max_two min_two max_three min_three max_four min_four   -- for this text's walks alone
set_option linter.unusedVariables false
set_option linter.unusedSimpArgs false

/-! ### spec_l71Spoil: function 138 -/
def spec_l71Spoil.f (k : Nat) (s0_0 : List Int) (s0_1 : Int) (a1_0 : Int) (l1_1 : List (S73)) : Option (Int × (List (S73)) × Int) := (spec_l1Copy.f a1_0 l1_1).bind fun bt630 => ((spec_l6Rd_pick.f k s0_0 s0_1 6).bind fun bt634 => (if bt634.1 = 0 then ((some (([(-1), 0, 1, 8, 9] : List Int) : List Int)).bind fun y636 => ((spec_l6Rd_pick.f k s0_0 bt634.2 5).bind fun bt639 => (if 0 ≤ bt639.1 then (if bt639.1 < (y636.length : Int) then (some (rd y636 bt639.1, bt630.2, bt639.2)) else (none)) else (none)))) else (if bt634.1 = 1 then ((spec_l6Rd_pick.f k s0_0 bt634.2 3).bind fun bt642 => ((spec_l6Rd_pick.f k s0_0 bt642.2 3).bind fun bt644 => (if bt630.2.length < 8796093022208 then (some (bt630.1, (bt630.2 ++ [(⟨bt642.1, bt644.1⟩ : S73)]), bt644.2)) else (none)))) else (if bt634.1 = 2 then (if bt630.2.length < 8796093022208 then (some (bt630.1, (bt630.2 ++ [(⟨wrap64 (bt630.1 - 1), bt630.1⟩ : S73)]), bt634.2)) else (none)) else (if bt634.1 = 3 then (if (bt630.2.length : Int) > 0 then ((spec_l6Rd_pick.f k s0_0 bt634.2 (bt630.2.length : Int)).bind fun bt652 => (if 0 ≤ bt652.1 then (if bt652.1 < (bt630.2.length : Int) then (some (bt630.1, (bt630.2.set (bt652.1 : Int).toNat (⟨(rd_T73 bt630.2 bt652.1).f1, (rd_T73 bt630.2 bt652.1).f0⟩ : S73)), bt652.2)) else (none)) else (none))) else (some (bt630.1, bt630.2, bt634.2))) else (if bt634.1 = 4 then (if (bt630.2.length : Int) > 1 then (if 0 < (bt630.2.length : Int) then (if bt630.2.length < 8796093022208 then (some (bt630.1, (bt630.2 ++ [(⟨(rd_T73 bt630.2 0).f0, (rd_T73 bt630.2 0).f1⟩ : S73)]), bt634.2)) else (none)) else (none)) else (some (bt630.1, bt630.2, bt634.2))) else ((some (([(⟨(-1), 0⟩ : S73)] : List (S73)) : List (S73))).bind fun y661 => (if y661.length + bt630.2.length < 8796093022208 then (some (bt630.1, (y661 ++ bt630.2), bt634.2)) else (none)))))))))
theorem spec_l71Spoil.mono : ∀ a0 a1 a2 a3 k, LeO (spec_l71Spoil.f k a0 a1 a2 a3) (spec_l71Spoil.f (k + 1) a0 a1 a2 a3) := by
 intro a0 a1 a2 a3 k
 unfold spec_l71Spoil.f
 have m0_ := @spec_l6Rd_pick.mono
 exact mo_
def spec_l71Spoil.T7 : Bool × List (List Nat × List Nat) := (true, [([], []), ([0], [0]), ([], []), ([2], [2]), ([], []), ([4, 3], [4]), ([3, 5], [3, 5]), ([6], [6]), ([1, 7, 5], [1, 7]), ([0, 1, 2, 3, 4, 5, 6, 7, 8], []), ([9, 8, 8, 0, 1, 2, 3, 4, 5, 6, 7, 8], [8, 9])])
def spec_l71Spoil.B7 : List Nat := [0, 1, 0, 4, 0, 28, 60, 124, 255, 511, 1023]
theorem spec_l71Spoil.tab7 : rtab .any (opsOf Try.f138 7) = spec_l71Spoil.T7 := by kernel_rfl
theorem spec_l71Spoil.bits7 : waitsOk spec_l71Spoil.T7.2 spec_l71Spoil.B7 = true := by kernel_rfl
def spec_l71Spoil.T13 : Bool × List (List Nat × List Nat) := (true, [([], []), ([0], [0]), ([], []), ([], []), ([3], [3]), ([], []), ([4, 5], [4, 5]), ([6], [6]), ([7], [7]), ([], []), ([9], [9]), ([], []), ([10, 11], [10, 11]), ([12], [12]), ([13], [13]), ([8, 14], [8, 14]), ([1, 2, 0, 1, 2, 3, 4, 5, 6, 7, 8, 9, 10, 11, 12, 13, 14, 15], [1, 2]), ([16, 15, 0, 1, 2, 3, 4, 5, 6, 7, 8, 9, 10, 11, 12, 13, 14, 15], [15, 16])])
def spec_l71Spoil.B13 : List Nat := [0, 1, 0, 0, 8, 0, 56, 120, 248, 0, 512, 0, 3584, 7680, 15872, 32760, 65535, 131071]
theorem spec_l71Spoil.tab13 : rtab .any (opsOf Try.f138 13) = spec_l71Spoil.T13 := by kernel_rfl
theorem spec_l71Spoil.bits13 : waitsOk spec_l71Spoil.T13.2 spec_l71Spoil.B13 = true := by kernel_rfl
def spec_l71Spoil.T16 : Bool × List (List Nat × List Nat) := (true, [([], []), ([0], [0]), ([], []), ([2], [2]), ([3], [3]), ([4], [4]), ([5], [5]), ([1, 6], [1, 6]), ([0, 1, 2, 3, 4, 5, 6, 7], []), ([8, 7, 7, 0, 1, 2, 3, 4, 5, 6, 7], [7, 8])])
def spec_l71Spoil.B16 : List Nat := [0, 1, 0, 4, 12, 28, 60, 127, 255, 511]
theorem spec_l71Spoil.tab16 : rtab .any (opsOf Try.f138 16) = spec_l71Spoil.T16 := by kernel_rfl
theorem spec_l71Spoil.bits16 : waitsOk spec_l71Spoil.T16.2 spec_l71Spoil.B16 = true := by kernel_rfl
set_option maxHeartbeats 8000000 in
set_option maxRecDepth 100000 in
theorem spec_l71Spoil.calls (k : Nat) (g : Nat) (s0_0 : List Int) (s0_1 : Int) (a1_0 : Int) (A1_1 : Option Addr) (c1_1 : Nat) (l1_1 : List (S73)) (r1 : Int) (r2 : List (S73)) (r3 : Int) (w0 w : World) (hI : IsS120 w0 w g s0_0 s0_1) (hB : Below w0.heap.size w0 w) (hr1_1 : ∀ W_, KeepBut w W_ g none → Kd.C k73 W_ A1_1 l1_1.length l1_1) (hc1_1 : l1_1.length ≤ c1_1) (h : spec_l71Spoil.f k s0_0 s0_1 a1_0 l1_1 = some (r1, r2, r3)) :
  Calls Try.prog 138 #[.pointer (some ⟨g, 0, none⟩), .agg #[.int .i64 a1_0, .slice A1_1 l1_1.length c1_1]] w fun e w' => ∃ v1_ : Value, e = .returned (.agg #[.int .i64 r1, v1_]) ∧ Kd.R k73 73 w' w.heap.size (fun _ => True) v1_ r2 ∧ IsS120 w0 w' g s0_0 r3 ∧ Below w0.heap.size w0 w' ∧ KeepBut w w' g none := by
 have hu34 := Try.underlying34
 have hu73 := Try.underlying73
 have HR1_1 := am hr1_1
 have HC1_1 := am hc1_1
 clear hr1_1 hc1_1
 have GEs_ := am (IsS120.ge hI)
 have HI0 := am hI
 have HK := am (KeepBut.refl w g none)
 have HL := am hB.size
 clear hI
 have HW0 := am hB.size
 have HB := am hB
 clear hB
 have H : ((spec_l1Copy.f a1_0 l1_1).bind fun bt630 => ((spec_l6Rd_pick.f k s0_0 s0_1 6).bind fun bt634 => (if bt634.1 = 0 then ((some (([(-1), 0, 1, 8, 9] : List Int) : List Int)).bind fun y636 => ((spec_l6Rd_pick.f k s0_0 bt634.2 5).bind fun bt639 => (if 0 ≤ bt639.1 then (if bt639.1 < (y636.length : Int) then (some (rd y636 bt639.1, bt630.2, bt639.2)) else (none)) else (none)))) else (if bt634.1 = 1 then ((spec_l6Rd_pick.f k s0_0 bt634.2 3).bind fun bt642 => ((spec_l6Rd_pick.f k s0_0 bt642.2 3).bind fun bt644 => (if bt630.2.length < 8796093022208 then (some (bt630.1, (bt630.2 ++ [(⟨bt642.1, bt644.1⟩ : S73)]), bt644.2)) else (none)))) else (if bt634.1 = 2 then (if bt630.2.length < 8796093022208 then (some (bt630.1, (bt630.2 ++ [(⟨wrap64 (bt630.1 - 1), bt630.1⟩ : S73)]), bt634.2)) else (none)) else (if bt634.1 = 3 then (if (bt630.2.length : Int) > 0 then ((spec_l6Rd_pick.f k s0_0 bt634.2 (bt630.2.length : Int)).bind fun bt652 => (if 0 ≤ bt652.1 then (if bt652.1 < (bt630.2.length : Int) then (some (bt630.1, (bt630.2.set (bt652.1 : Int).toNat (⟨(rd_T73 bt630.2 bt652.1).f1, (rd_T73 bt630.2 bt652.1).f0⟩ : S73)), bt652.2)) else (none)) else (none))) else (some (bt630.1, bt630.2, bt634.2))) else (if bt634.1 = 4 then (if (bt630.2.length : Int) > 1 then (if 0 < (bt630.2.length : Int) then (if bt630.2.length < 8796093022208 then (some (bt630.1, (bt630.2 ++ [(⟨(rd_T73 bt630.2 0).f0, (rd_T73 bt630.2 0).f1⟩ : S73)]), bt634.2)) else (none)) else (none)) else (some (bt630.1, bt630.2, bt634.2))) else ((some (([(⟨(-1), 0⟩ : S73)] : List (S73)) : List (S73))).bind fun y661 => (if y661.length + bt630.2.length < 8796093022208 then (some (bt630.1, (y661 ++ bt630.2), bt634.2)) else (none)))))))))) = some (r1, r2, r3) := h
 clear h
 replace H := Option.bind_eq_some_iff.mp H
 obtain ⟨⟨t630, t631⟩, A30, H⟩ := H
 (try dsimp only at H)
 have A3 := am A30
 clear A30
 replace H := Option.bind_eq_some_iff.mp H
 obtain ⟨⟨t634, t635⟩, A40, H⟩ := H
 (try dsimp only at H)
 have A4 := am A40
 clear A40
 by_cases c5 : t634 = 0
 ·rw [if_pos c5] at H
  have c5b0 : (t634 == 0) = true := beq_iff_eq.mpr c5
  have c5b1 : (t634 != 0) = false := bne_eq_false_iff_eq.mpr c5
  clear c5
  obtain ⟨y636, hy636⟩ : ∃ y_ : List Int, y_ = (([(-1), 0, 1, 8, 9] : List Int)) := ⟨_, rfl⟩
  replace H : ((spec_l6Rd_pick.f k s0_0 t635 5).bind fun bt639 => (if 0 ≤ bt639.1 then (if bt639.1 < (y636.length : Int) then (some (rd y636 bt639.1, t631, bt639.2)) else (none)) else (none))) = some (r1, r2, r3) := nh_ hy636 H
  have Ny636 := am hy636
  clear hy636
  replace H := Option.bind_eq_some_iff.mp H
  obtain ⟨⟨t639, t640⟩, A60, H⟩ := H
  (try dsimp only at H)
  have A6 := am A60
  clear A60
  obtain ⟨c7, H⟩ := ig_ H
  have c7b0 := decide_eq_true c7
  clear c7
  obtain ⟨c8, H⟩ := ig_ H
  have c8b0 := decide_eq_true c8
  clear c8
  simp only [Option.some.injEq, Prod.mk.injEq] at H
  obtain ⟨rfl, rfl, rfl⟩ := H
  go_enter Try.func138, Try.ntmps138
  go_wp2_with (first | ((with_reducible refine gate_dst (N := 3) rfl ?_); refine be_ 3 #[.int .i64 a1_0, .slice A1_1 l1_1.length c1_1] 34 ?_; intro gb628 hg w9 hbox hb; replace HB := bs HB hb; have BK628 := am hbox; have GW628 := am (gk_ hg HK); have GE628 := am (Nat.le_trans HW0.out (gk_ hg HK) : w0.heap.size ≤ gb628); replace HK := am (KeepBut.trans (kn HK) (KeepBut.of_below hb g none) (.inl rfl)); have NB0_628 := am ((by rw [hg]; exact Nat.ne_of_lt (IsS120.lt (show IsS120 w0 _ g s0_0 s0_1 from IsS120.now)) : g ≠ gb628)); have NB628_0 := am ((by rw [hg]; exact Nat.ne_of_gt (IsS120.lt (show IsS120 w0 _ g s0_0 s0_1 from IsS120.now)) : gb628 ≠ g)); replace HI0 := am (IsS120.below (IsS120.now) hb); clear hb hbox hg) | ((with_reducible refine gate_dst (N := 4) rfl ?_); refine be_ 4 #[.int .i64 0, .slice none 0 0] 34 ?_; intro gb629 hg w10 hbox hb; replace HB := bs HB hb; have BK629 := am hbox; have GW629 := am (gk_ hg HK); have GE629 := am (Nat.le_trans HW0.out (gk_ hg HK) : w0.heap.size ≤ gb629); replace HK := am (KeepBut.trans (kn HK) (KeepBut.of_below hb g none) (.inl rfl)); obtain ⟨NB628_629, NB629_628⟩ := nb_ hg BK628; replace BK628 := bb BK628 hb; have NB0_629 := am ((by rw [hg]; exact Nat.ne_of_lt (IsS120.lt (show IsS120 w0 _ g s0_0 s0_1 from IsS120.now)) : g ≠ gb629)); have NB629_0 := am ((by rw [hg]; exact Nat.ne_of_gt (IsS120.lt (show IsS120 w0 _ g s0_0 s0_1 from IsS120.now)) : gb629 ≠ g)); replace HI0 := am (IsS120.below (IsS120.now) hb); clear hb hbox hg; obtain ⟨hnb11, hnc11⟩ := n2 NB628_629 NB629_628; obtain ⟨hnb12, hnc12⟩ := n2 NB628_0 NB0_628; obtain ⟨hcz13_0, hcz13_1, hfz13_0, hfz13_1⟩ := c2 BK628) | ((with_reducible refine gate_callee (f := 102) rfl ?_); refine gl_ (some 7) Try.func102 #[.agg #[.int .i64 a1_0, .slice A1_1 l1_1.length c1_1]] ?_; (with_reducible refine (spec_l1Copy.calls a1_0 _ _ l1_1 t630 t631 _ ?side1 ?side2 A3.out).mono ?_); (case side1 => exact Kd.C_foot_now HR1_1.out (kn HK)); (case side2 => exact HC1_1.out); rintro e w14 ⟨v632, rfl, ho0, hb⟩; refine ⟨_, rfl, ?_⟩; have HO633 := am (Kd.R_lower ho0 (keep_size (w := w) (g := g) (row := none) (kn HK))); replace HI0 := am (IsS120.below (IsS120.now) hb); replace BK628 := bb BK628 hb; replace BK629 := bb BK629 hb; replace HK := am (KeepBut.trans (kn HK) (KeepBut.of_below hb g none) (.inl rfl)); replace HB := bs HB hb; (try clear hb); (try clear ho0); obtain ⟨hcz15_0, hcz15_1, hfz15_0, hfz15_1⟩ := c2 BK628; obtain ⟨Ao16, co16, eo16⟩ := Kd.R_slice HO633.out; subst eo16) | ((with_reducible refine gate_callee (f := 126) rfl ?_); refine gl_ (some 9) Try.func126 #[.pointer (some ⟨g, 0, none⟩), .int .i64 6] ?_; (with_reducible refine (spec_l6Rd_pick.calls k g s0_0 s0_1 6 t634 t635 w0 _ ?side1 ?side2 A4.out).mono ?_); (case side1 => exact IsS120.now); (case side2 => exact bn HB); rintro e w17 ⟨rfl, hi, hb, hk⟩; refine ⟨_, rfl, ?_⟩; replace BK629 := am (KeepBut.blk hk (bkn BK629) NB629_0.out (by simp)); replace HO633 := am (Kd.R_mono (Kd.R_keep (IsS120.apart (show IsS120 w0 _ g s0_0 s0_1 from IsS120.now) (by (with_reducible repeat (first | apply Kd.R_alloc | apply Kd.R_drewN | apply Kd.R_drew)); exact (Kd.R_mono (Kd.R_far (p := ⟨gb628, 1, none⟩) (Kd.R_far (p := ⟨gb628, 0, none⟩) (Kd.R_types HO633.out BK628.out (by decide)) (fun _ hk => hk.2) (.int .i64 t630)) (fun _ hk => hk.2) (.slice Ao16 t631.length co16)) (fun _ h_ => h_.1))) (by decide)) hk (fun _ h => h.2)) (fun _ h => h.1)); replace BK628 := am (KeepBut.blk hk (g' := gb628) (o := .cells #[.int .i64 t630, .slice Ao16 t631.length co16] 34 (0, 0)) (by (with_reducible repeat (first | refine blk_drewN ?_ _ | refine blk_drew ?_ | refine blk_alloc ?_ _)); refine blk_put (cs := #[.int .i64 t630, .slice A1_1 l1_1.length c1_1]) ?_ 1 _ rfl; (with_reducible repeat (first | refine blk_drewN ?_ _ | refine blk_drew ?_ | refine blk_alloc ?_ _)); refine blk_put (cs := #[.int .i64 a1_0, .slice A1_1 l1_1.length c1_1]) ?_ 0 _ rfl; (with_reducible repeat (first | refine blk_drewN ?_ _ | refine blk_drew ?_ | refine blk_alloc ?_ _)); exact BK628.out) NB628_0.out (by simp)); replace HK := am (KeepBut.trans (kn HK) hk (.inl rfl)); replace HB := am hb; replace HI0 := am hi; (try clear hb); (try clear hk); (try clear hi)) | ((with_reducible refine gate_dst (N := 18) rfl ?_); refine Kd.R_lit (Kd.int .i64) _ 3 ?hg (N := 18) ?hd (xs := ([(-1), 0, 1, 8, 9] : List Int)) (inner := [.int .i64 (-1), .int .i64 0, .int .i64 1, .int .i64 8, .int .i64 9]) (ok := fun _ => True) (okp := fun _ => True) ?hr ?hp (fun _ hk => hk) trivial (Below.refl _ _) (Nat.le_refl _) (by simp) ?_; (case hd => rfl); (case hg => rfl); (case hr => first | (go_simp; done) | (go_simp; rfl)); (case hp => exact (Reps.one (show Kd.M (Kd.int .i64) _ _ _ (-1) [.int .i64 (-1)] from rfl) (Reps.one (show Kd.M (Kd.int .i64) _ _ _ 0 [.int .i64 0] from rfl) (Reps.one (show Kd.M (Kd.int .i64) _ _ _ 1 [.int .i64 1] from rfl) (Reps.one (show Kd.M (Kd.int .i64) _ _ _ 8 [.int .i64 8] from rfl) (Reps.one (show Kd.M (Kd.int .i64) _ _ _ 9 [.int .i64 9] from rfl) (Reps.none _ _))))))); intro v637 w18 ho19 hb hg_ hnew_; clear hg_ hnew_; (first | rw [← Ny636.out] at ho19 | (simp only [Int.reduceToNat] at ho19; rw [← Ny636.out] at ho19)); replace HO633 := am (Kd.R_below (onR HO633) hb); have HO638 := am (Kd.R_lower ho19 (keep_size (w := w) (g := g) (row := none) (kn HK))); replace HI0 := am (IsS120.below (IsS120.now) hb); replace BK628 := bb BK628 hb; replace BK629 := bb BK629 hb; replace HK := am (KeepBut.trans (kn HK) (KeepBut.of_below hb g none) (.inl rfl)); replace HB := bs HB hb; clear hb ho19) | ((with_reducible refine gate_callee (f := 126) rfl ?_); refine gl_ (some 20) Try.func126 #[.pointer (some ⟨g, 0, none⟩), .int .i64 5] ?_; (with_reducible refine (spec_l6Rd_pick.calls k g s0_0 t635 5 t639 t640 w0 _ ?side1 ?side2 A6.out).mono ?_); (case side1 => exact IsS120.now); (case side2 => exact bn HB); rintro e w20 ⟨rfl, hi, hb, hk⟩; refine ⟨_, rfl, ?_⟩; replace BK628 := am (KeepBut.blk hk (bkn BK628) NB628_0.out (by simp)); replace BK629 := am (KeepBut.blk hk (bkn BK629) NB629_0.out (by simp)); replace HO633 := am (Kd.R_mono (Kd.R_keep (IsS120.apart (show IsS120 w0 _ g s0_0 t635 from IsS120.now) (onR HO633) (by decide)) hk (fun _ h => h.2)) (fun _ h => h.1)); replace HO638 := am (Kd.R_mono (Kd.R_keep (IsS120.apart (show IsS120 w0 _ g s0_0 t635 from IsS120.now) (onR HO638) (by decide)) hk (fun _ h => h.2)) (fun _ h => h.1)); replace HK := am (KeepBut.trans (kn HK) hk (.inl rfl)); replace HB := am hb; replace HI0 := am hi; (try clear hb); (try clear hk); (try clear hi); obtain ⟨Ao21, co21, eo21⟩ := Kd.R_slice HO638.out; subst eo21; have p641 : 0 ≤ (t639 : Int) := oa; have q641 : t639 < (y636.length : Int) := oa; obtain ⟨ad641, e641, hx641_0⟩ := Kd.at_int (Kd.R_reads' HO638.out).2.2 t639 p641 q641; cases e641; replace p641 := eq_true p641; replace q641 := eq_true q641; obtain ⟨hcz22_0, hcz22_1, hfz22_0, hfz22_1⟩ := c2 BK628; obtain ⟨hnb23, hnc23⟩ := n2 NB629_0 NB0_629; obtain ⟨hcz24_0, hcz24_1, hfz24_0, hfz24_1⟩ := c2 BK629))
  refine bodyPost_ret (results_cell_row rfl _ _ gb629 34 #[.int .i64 (rd y636 t639), .slice Ao16 t631.length co16] (0, 0) _ rfl (by (with_reducible repeat (first | refine blk_drewN ?_ _ | refine blk_drew ?_ | refine blk_alloc ?_ _)); refine blk_put (cs := #[.int .i64 (rd y636 t639), .slice none 0 0]) ?_ 1 _ rfl; (with_reducible repeat (first | refine blk_drewN ?_ _ | refine blk_drew ?_ | refine blk_alloc ?_ _)); refine blk_put (cs := #[.int .i64 0, .slice none 0 0]) ?_ 0 _ rfl; (with_reducible repeat (first | refine blk_drewN ?_ _ | refine blk_drew ?_ | refine blk_alloc ?_ _)); refine blk_far ?_ NB629_628.out _; (with_reducible repeat (first | refine blk_drewN ?_ _ | refine blk_drew ?_ | refine blk_alloc ?_ _)); exact BK629.out) Try.underlying34 rfl (by kernel_rfl)) rfl ?_
  exact ⟨_, by first | rfl | (simp [errW_none, errW_some] <;> rfl) | (simp [*, errW_none, errW_some] <;> rfl), by (with_reducible repeat (first | apply Kd.R_alloc | apply Kd.R_drewN | apply Kd.R_drew)); exact Kd.R_mono (Kd.R_far (p := ⟨gb629, 1, none⟩) (Kd.R_far (p := ⟨gb629, 0, none⟩) (Kd.R_far (p := ⟨gb628, 0, none⟩) (Kd.R_types (Kd.R_types HO633.out BK628.out (by decide)) BK629.out (by decide)) (fun _ hk => hk.1.2) (.int .i64 (rd y636 t639))) (fun _ hk => hk.2) (.int .i64 (rd y636 t639))) (fun _ hk => hk.2) (.slice Ao16 t631.length co16)) (fun _ hk => trivial), IsS120.now, bn HB, kn HK⟩
 ·rw [if_neg c5] at H
  have c5b0 : (t634 == 0) = false := beq_eq_false_iff_ne.mpr c5
  have c5b1 : (t634 != 0) = true := bne_iff_ne.mpr c5
  by_cases c25 : t634 = 1
  ·rw [if_pos c25] at H
   have c25b0 : (t634 == 1) = true := beq_iff_eq.mpr c25
   have c25b1 : (t634 != 1) = false := bne_eq_false_iff_eq.mpr c25
   clear c25
   replace H := Option.bind_eq_some_iff.mp H
   obtain ⟨⟨t642, t643⟩, A260, H⟩ := H
   (try dsimp only at H)
   have A26 := am A260
   clear A260
   replace H := Option.bind_eq_some_iff.mp H
   obtain ⟨⟨t644, t645⟩, A270, H⟩ := H
   (try dsimp only at H)
   have A27 := am A270
   clear A270
   obtain ⟨c28, H⟩ := ig_ H
   have LMc28 := am c28
   clear c28
   obtain ⟨y646, hy646⟩ : ∃ y_ : List (S73), y_ = (t631 ++ [(⟨t642, t644⟩ : S73)]) := ⟨_, rfl⟩
   replace H : (some (t630, y646, t645)) = some (r1, r2, r3) := nh_ hy646 H
   have Ny646 := am hy646
   clear hy646
   simp only [Option.some.injEq, Prod.mk.injEq] at H
   obtain ⟨rfl, rfl, rfl⟩ := H
   go_enter Try.func138, Try.ntmps138
   try go_wp2_with (first | ((with_reducible refine gate_dst (N := 3) rfl ?_); refine be_ 3 #[.int .i64 a1_0, .slice A1_1 l1_1.length c1_1] 34 ?_; intro gb628 hg w29 hbox hb; replace HB := bs HB hb; have BK628 := am hbox; have GW628 := am (gk_ hg HK); have GE628 := am (Nat.le_trans HW0.out (gk_ hg HK) : w0.heap.size ≤ gb628); replace HK := am (KeepBut.trans (kn HK) (KeepBut.of_below hb g none) (.inl rfl)); have NB0_628 := am ((by rw [hg]; exact Nat.ne_of_lt (IsS120.lt (show IsS120 w0 _ g s0_0 s0_1 from IsS120.now)) : g ≠ gb628)); have NB628_0 := am ((by rw [hg]; exact Nat.ne_of_gt (IsS120.lt (show IsS120 w0 _ g s0_0 s0_1 from IsS120.now)) : gb628 ≠ g)); replace HI0 := am (IsS120.below (IsS120.now) hb); clear hb hbox hg) | ((with_reducible refine gate_dst (N := 4) rfl ?_); refine be_ 4 #[.int .i64 0, .slice none 0 0] 34 ?_; intro gb629 hg w30 hbox hb; replace HB := bs HB hb; have BK629 := am hbox; have GW629 := am (gk_ hg HK); have GE629 := am (Nat.le_trans HW0.out (gk_ hg HK) : w0.heap.size ≤ gb629); replace HK := am (KeepBut.trans (kn HK) (KeepBut.of_below hb g none) (.inl rfl)); obtain ⟨NB628_629, NB629_628⟩ := nb_ hg BK628; replace BK628 := bb BK628 hb; have NB0_629 := am ((by rw [hg]; exact Nat.ne_of_lt (IsS120.lt (show IsS120 w0 _ g s0_0 s0_1 from IsS120.now)) : g ≠ gb629)); have NB629_0 := am ((by rw [hg]; exact Nat.ne_of_gt (IsS120.lt (show IsS120 w0 _ g s0_0 s0_1 from IsS120.now)) : gb629 ≠ g)); replace HI0 := am (IsS120.below (IsS120.now) hb); clear hb hbox hg; obtain ⟨hnb31, hnc31⟩ := n2 NB628_629 NB629_628; obtain ⟨hnb32, hnc32⟩ := n2 NB628_0 NB0_628; obtain ⟨hcz33_0, hcz33_1, hfz33_0, hfz33_1⟩ := c2 BK628) | ((with_reducible refine gate_callee (f := 102) rfl ?_); refine gl_ (some 7) Try.func102 #[.agg #[.int .i64 a1_0, .slice A1_1 l1_1.length c1_1]] ?_; (with_reducible refine (spec_l1Copy.calls a1_0 _ _ l1_1 t630 t631 _ ?side1 ?side2 A3.out).mono ?_); (case side1 => exact Kd.C_foot_now HR1_1.out (kn HK)); (case side2 => exact HC1_1.out); rintro e w34 ⟨v632, rfl, ho0, hb⟩; refine ⟨_, rfl, ?_⟩; have HO633 := am (Kd.R_lower ho0 (keep_size (w := w) (g := g) (row := none) (kn HK))); replace HI0 := am (IsS120.below (IsS120.now) hb); replace BK628 := bb BK628 hb; replace BK629 := bb BK629 hb; replace HK := am (KeepBut.trans (kn HK) (KeepBut.of_below hb g none) (.inl rfl)); replace HB := bs HB hb; (try clear hb); (try clear ho0); obtain ⟨hcz35_0, hcz35_1, hfz35_0, hfz35_1⟩ := c2 BK628; obtain ⟨Ao36, co36, eo36⟩ := Kd.R_slice HO633.out; subst eo36) | ((with_reducible refine gate_callee (f := 126) rfl ?_); refine gl_ (some 9) Try.func126 #[.pointer (some ⟨g, 0, none⟩), .int .i64 6] ?_; (with_reducible refine (spec_l6Rd_pick.calls k g s0_0 s0_1 6 t634 t635 w0 _ ?side1 ?side2 A4.out).mono ?_); (case side1 => exact IsS120.now); (case side2 => exact bn HB); rintro e w37 ⟨rfl, hi, hb, hk⟩; refine ⟨_, rfl, ?_⟩; replace BK629 := am (KeepBut.blk hk (bkn BK629) NB629_0.out (by simp)); replace HO633 := am (Kd.R_mono (Kd.R_keep (IsS120.apart (show IsS120 w0 _ g s0_0 s0_1 from IsS120.now) (by (with_reducible repeat (first | apply Kd.R_alloc | apply Kd.R_drewN | apply Kd.R_drew)); exact (Kd.R_mono (Kd.R_far (p := ⟨gb628, 1, none⟩) (Kd.R_far (p := ⟨gb628, 0, none⟩) (Kd.R_types HO633.out BK628.out (by decide)) (fun _ hk => hk.2) (.int .i64 t630)) (fun _ hk => hk.2) (.slice Ao36 t631.length co36)) (fun _ h_ => h_.1))) (by decide)) hk (fun _ h => h.2)) (fun _ h => h.1)); replace BK628 := am (KeepBut.blk hk (g' := gb628) (o := .cells #[.int .i64 t630, .slice Ao36 t631.length co36] 34 (0, 0)) (by (with_reducible repeat (first | refine blk_drewN ?_ _ | refine blk_drew ?_ | refine blk_alloc ?_ _)); refine blk_put (cs := #[.int .i64 t630, .slice A1_1 l1_1.length c1_1]) ?_ 1 _ rfl; (with_reducible repeat (first | refine blk_drewN ?_ _ | refine blk_drew ?_ | refine blk_alloc ?_ _)); refine blk_put (cs := #[.int .i64 a1_0, .slice A1_1 l1_1.length c1_1]) ?_ 0 _ rfl; (with_reducible repeat (first | refine blk_drewN ?_ _ | refine blk_drew ?_ | refine blk_alloc ?_ _)); exact BK628.out) NB628_0.out (by simp)); replace HK := am (KeepBut.trans (kn HK) hk (.inl rfl)); replace HB := am hb; replace HI0 := am hi; (try clear hb); (try clear hk); (try clear hi)))
   replace HO633 := am (Kd.R_drew HO633.out)
   replace BK628 := am (blk_drew BK628.out)
   replace BK629 := am (blk_drew BK629.out)
   replace HI0 := am (IsS120.drew HI0.out)
   replace HK := am (keep_drew HK.out)
   replace HB := am (below_drew1 HB.out)
   refine start_ (n := 11) (S := fun w' => w'.cell? ⟨gb628, 0, none⟩ = some (.int .i64 t630) ∧ w'.cell? ⟨gb628, 1, none⟩ = some (.slice Ao36 t631.length co36)) (ds := [10]) #[false, false, false, false, false, false, false, false, false, false, false] (by kernel_rfl) rfl rfl ⟨(bc BK628 0), (bc BK628 1)⟩ (fun hHeld => ?_); refine with_tabW spec_l71Spoil.tab7 spec_l71Spoil.bits7 (fun HT_ HW_ => ?_)
   generalize w37.drew = w38 at HO633 BK628 BK629 HI0 HK HB hHeld ⊢
   refine pz_ 0 (some 26) HT_ ?_
   refine pz_ 2 (some 28) HT_ ?_
   refine pz_ 4 (some 30) HT_ ?_
   refine tz_ 1 (some 27) HT_ HW_ hHeld ?_
   refine one_ (i := 3) (N := some 29) #[true, true, true, true, true, false, false, false, false, false, false] rfl rfl (one_of HT_.out (by kernel_rfl)) (by decide) (fun K hK => ?_)
   refine gg_ Try.func126 #[.pointer (some ⟨g, 0, none⟩), .int .i64 3] ?_
   with_reducible refine (spec_l6Rd_pick.calls k g s0_0 t635 3 t642 t643 w0 _ ?side1 ?side2 A26.out).mono ?_
   (case side1 => exact IsS120.now)
   (case side2 => exact bn HB)
   rintro e w39 ⟨rfl, hi, hb, hk⟩
   refine ⟨_, rfl, ?_⟩
   replace BK628 := am (KeepBut.blk hk (bkn BK628) NB628_0.out (by simp))
   replace BK629 := am (KeepBut.blk hk (bkn BK629) NB629_0.out (by simp))
   replace HO633 := am (Kd.R_mono (Kd.R_keep (IsS120.apart (show IsS120 w0 _ g s0_0 t635 from IsS120.now) (onR HO633) (by decide)) hk (fun _ h => h.2)) (fun _ h => h.1))
   replace HK := am (KeepBut.trans (kn HK) hk (.inl rfl))
   replace HB := am hb
   replace HI0 := am hi
   (try clear hb)
   (try clear hb2)
   (try clear hk)
   (try clear hi)
   refine hK.out _ _ ⟨(bc BK628 0), (bc BK628 1)⟩ (fun hHeld => ?_)
   clear hK K
   refine nz_ 29 ?_
   refine one_ (i := 5) (N := some 31) #[true, true, true, true, true, true, false, false, false, false, false] rfl rfl (one_of HT_.out (by kernel_rfl)) (by decide) (fun K hK => ?_)
   refine gg_ Try.func126 #[.pointer (some ⟨g, 0, none⟩), .int .i64 3] ?_
   with_reducible refine (spec_l6Rd_pick.calls k g s0_0 t643 3 t644 t645 w0 _ ?side1 ?side2 A27.out).mono ?_
   (case side1 => exact IsS120.now)
   (case side2 => exact bn HB)
   rintro e w40 ⟨rfl, hi, hb, hk⟩
   refine ⟨_, rfl, ?_⟩
   replace BK628 := am (KeepBut.blk hk (bkn BK628) NB628_0.out (by simp))
   replace BK629 := am (KeepBut.blk hk (bkn BK629) NB629_0.out (by simp))
   replace HO633 := am (Kd.R_mono (Kd.R_keep (IsS120.apart (show IsS120 w0 _ g s0_0 t643 from IsS120.now) (onR HO633) (by decide)) hk (fun _ h => h.2)) (fun _ h => h.1))
   replace HK := am (KeepBut.trans (kn HK) hk (.inl rfl))
   replace HB := am hb
   replace HI0 := am hi
   (try clear hb)
   (try clear hb2)
   (try clear hk)
   (try clear hi)
   refine hK.out _ _ ⟨(bc BK628 0), (bc BK628 1)⟩ (fun hHeld => ?_)
   clear hK K
   refine nz_ 31 ?_
   refine pz_ 6 (some 32) HT_ ?_
   refine one_ (i := 7) (N := some 33) #[true, true, true, true, true, true, true, true, false, false, false] rfl rfl (one_of HT_.out (by kernel_rfl)) (by decide) (fun K hK => ?_)
   refine value_ (w1 := ?_) (v := ?_) (by rfl) rfl ?_ ?_
   rotate_left 2
   ·go_simp
    constructor
    ·rfl
    ·rfl
   refine hK.out _ _ ⟨(blk_cell (blk_alloc BK628.out _) 0).trans rfl, (blk_cell (blk_alloc BK628.out _) 1).trans rfl⟩ (fun hHeld => ?_)
   clear hK K
   refine nz_ 33 ?_
   refine one_ (i := 8) (N := some 34) #[true, true, true, true, true, true, true, true, true, false, false] rfl rfl (one_of HT_.out (by kernel_rfl)) (by decide) (fun K hK => ?_)
   refine Kd.R_append_step k73 w.heap.size (by rfl) (.tmp 27) (.tmp 33) 32 73 (.agg #[(.int .i64 0), (.int .i64 0)]) 16 rfl Try.underlying32 info73 rfl (by decide) (by omega) (.slice Ao36 t631.length co36) t631 (⟨t642, t644⟩ : S73) [.int .i64 t642, .int .i64 t644] (fun _ => True) (fun _ => False) rfl rfl ?aP (fun _ hk => hk.elim) ?aF ?aO (Below.refl _ _) ?aS ?aL ?_
   (case aP => exact k73_mkM _ _ _ (⟨t642, t644⟩ : S73))
   (case aF => exact (fun _ _ => trivial))
   (case aO => exact (onR HO633))
   (case aS => exact (keep_size (w := w) (g := g) (row := none) (kn HK)))
   (case aL => have := LMc28.out; omega)
   intro v647 w41 ho hb hg hat
   rw [← Ny646.out] at ho
   have n0_ := am (IsS120.grown (IsS120.now) hg (IsS120.own_ne HI0.out HO633.out (by decide)))
   have n1_ := am (blk_grown (bkn BK628) hg (Kd.R_ne HO633.out BK628.out (by decide)))
   have n2_ := am (blk_grown (bkn BK629) hg (Kd.R_ne HO633.out BK629.out (by decide)))
   have n3_ := am (below_weaken (bn HB) HL.out hb)
   have n4_ := am (KeepBut.trans (kn HK) (KeepBut.of_grown hg g) (Kd.R_base2 HO633.out))
   have n5_ := am ho
   clear HI0 BK628 BK629 HB HK HO633
   have HI0 := n0_
   have BK628 := n1_
   have BK629 := n2_
   have HB := n3_
   have HK := n4_
   have HO648 := n5_
   clear n0_ n1_ n2_ n3_ n4_ n5_ ho hb hg hat
   obtain ⟨Ao42, co42, eo42⟩ := Kd.R_slice HO648.out
   (first | subst eo42 | (injection eo42 with f1_ f2_ f3_; have f4_ := f1_.symm; have f5_ := f3_.symm; clear f1_ f2_ f3_; subst f4_; subst f5_))
   refine hK.out _ _ ⟨(bc BK628 0), (bc BK628 1)⟩ (fun hHeld => ?_)
   clear hK K
   refine nz_ 34 ?_
   refine pz_ 9 (some 35) HT_ ?_
   refine last_ (i := 10) (N := none) #[true, true, true, true, true, true, true, true, true, true, true] rfl rfl (one_of HT_.out (by kernel_rfl)) (by decide) (fun K hK => ?_)
   have hs43 := bc BK628 1
   have hfs43 := blk_frozen BK628.out 1
   have hns43_1 := NB629_628.out
   have hms43_1 := NB628_629.out
   refine skip_ (w1 := ?_) (by rfl) rfl ?_ ?_
   rotate_left
   ·go_simp
    rfl
   refine hK.out _ _ ?_
   clear hK K
   refine done_ (done_of HT_.out (by kernel_rfl)) ?_
   obtain ⟨hcz44_0, hcz44_1, hfz44_0, hfz44_1⟩ := c2 BK628
   obtain ⟨hnb45, hnc45⟩ := n2 NB629_0 NB0_629
   obtain ⟨hcz46_0, hcz46_1, hfz46_0, hfz46_1⟩ := c2 BK629
   try go_wp2
   refine bodyPost_ret (results_cell_row rfl _ _ gb629 34 #[.int .i64 t630, .slice Ao42 y646.length co42] (0, 0) _ rfl (by (with_reducible repeat (first | refine blk_drewN ?_ _ | refine blk_drew ?_ | refine blk_alloc ?_ _)); refine blk_put (cs := #[.int .i64 t630, .slice none 0 0]) ?_ 1 _ rfl; (with_reducible repeat (first | refine blk_drewN ?_ _ | refine blk_drew ?_ | refine blk_alloc ?_ _)); refine blk_put (cs := #[.int .i64 0, .slice none 0 0]) ?_ 0 _ rfl; (with_reducible repeat (first | refine blk_drewN ?_ _ | refine blk_drew ?_ | refine blk_alloc ?_ _)); refine blk_far ?_ NB629_628.out _; (with_reducible repeat (first | refine blk_drewN ?_ _ | refine blk_drew ?_ | refine blk_alloc ?_ _)); exact BK629.out) Try.underlying34 rfl (by kernel_rfl)) rfl ?_
   exact ⟨_, by first | rfl | (simp [errW_none, errW_some] <;> rfl) | (simp [*, errW_none, errW_some] <;> rfl), by (with_reducible repeat (first | apply Kd.R_alloc | apply Kd.R_drewN | apply Kd.R_drew)); exact Kd.R_mono (Kd.R_far (p := ⟨gb629, 1, none⟩) (Kd.R_far (p := ⟨gb629, 0, none⟩) (Kd.R_far (p := ⟨gb628, 1, none⟩) (Kd.R_types (Kd.R_types HO648.out BK628.out (by decide)) BK629.out (by decide)) (fun _ hk => hk.1.2) (.slice Ao42 y646.length co42)) (fun _ hk => hk.2) (.int .i64 t630)) (fun _ hk => hk.2) (.slice Ao42 y646.length co42)) (fun _ hk => trivial), IsS120.now, bn HB, kn HK⟩
  ·rw [if_neg c25] at H
   have c25b0 : (t634 == 1) = false := beq_eq_false_iff_ne.mpr c25
   have c25b1 : (t634 != 1) = true := bne_iff_ne.mpr c25
   by_cases c47 : t634 = 2
   ·rw [if_pos c47] at H
    have c47b0 : (t634 == 2) = true := beq_iff_eq.mpr c47
    have c47b1 : (t634 != 2) = false := bne_eq_false_iff_eq.mpr c47
    clear c47
    obtain ⟨c48, H⟩ := ig_ H
    have LMc48 := am c48
    clear c48
    obtain ⟨y649, hy649⟩ : ∃ y_ : List (S73), y_ = (t631 ++ [(⟨wrap64 (t630 - 1), t630⟩ : S73)]) := ⟨_, rfl⟩
    replace H : (some (t630, y649, t635)) = some (r1, r2, r3) := nh_ hy649 H
    have Ny649 := am hy649
    clear hy649
    simp only [Option.some.injEq, Prod.mk.injEq] at H
    obtain ⟨rfl, rfl, rfl⟩ := H
    go_enter Try.func138, Try.ntmps138
    go_wp2_with (first | ((with_reducible refine gate_dst (N := 3) rfl ?_); refine be_ 3 #[.int .i64 a1_0, .slice A1_1 l1_1.length c1_1] 34 ?_; intro gb628 hg w49 hbox hb; replace HB := bs HB hb; have BK628 := am hbox; have GW628 := am (gk_ hg HK); have GE628 := am (Nat.le_trans HW0.out (gk_ hg HK) : w0.heap.size ≤ gb628); replace HK := am (KeepBut.trans (kn HK) (KeepBut.of_below hb g none) (.inl rfl)); have NB0_628 := am ((by rw [hg]; exact Nat.ne_of_lt (IsS120.lt (show IsS120 w0 _ g s0_0 s0_1 from IsS120.now)) : g ≠ gb628)); have NB628_0 := am ((by rw [hg]; exact Nat.ne_of_gt (IsS120.lt (show IsS120 w0 _ g s0_0 s0_1 from IsS120.now)) : gb628 ≠ g)); replace HI0 := am (IsS120.below (IsS120.now) hb); clear hb hbox hg) | ((with_reducible refine gate_dst (N := 4) rfl ?_); refine be_ 4 #[.int .i64 0, .slice none 0 0] 34 ?_; intro gb629 hg w50 hbox hb; replace HB := bs HB hb; have BK629 := am hbox; have GW629 := am (gk_ hg HK); have GE629 := am (Nat.le_trans HW0.out (gk_ hg HK) : w0.heap.size ≤ gb629); replace HK := am (KeepBut.trans (kn HK) (KeepBut.of_below hb g none) (.inl rfl)); obtain ⟨NB628_629, NB629_628⟩ := nb_ hg BK628; replace BK628 := bb BK628 hb; have NB0_629 := am ((by rw [hg]; exact Nat.ne_of_lt (IsS120.lt (show IsS120 w0 _ g s0_0 s0_1 from IsS120.now)) : g ≠ gb629)); have NB629_0 := am ((by rw [hg]; exact Nat.ne_of_gt (IsS120.lt (show IsS120 w0 _ g s0_0 s0_1 from IsS120.now)) : gb629 ≠ g)); replace HI0 := am (IsS120.below (IsS120.now) hb); clear hb hbox hg; obtain ⟨hnb51, hnc51⟩ := n2 NB628_629 NB629_628; obtain ⟨hnb52, hnc52⟩ := n2 NB628_0 NB0_628; obtain ⟨hcz53_0, hcz53_1, hfz53_0, hfz53_1⟩ := c2 BK628) | ((with_reducible refine gate_callee (f := 102) rfl ?_); refine gl_ (some 7) Try.func102 #[.agg #[.int .i64 a1_0, .slice A1_1 l1_1.length c1_1]] ?_; (with_reducible refine (spec_l1Copy.calls a1_0 _ _ l1_1 t630 t631 _ ?side1 ?side2 A3.out).mono ?_); (case side1 => exact Kd.C_foot_now HR1_1.out (kn HK)); (case side2 => exact HC1_1.out); rintro e w54 ⟨v632, rfl, ho0, hb⟩; refine ⟨_, rfl, ?_⟩; have HO633 := am (Kd.R_lower ho0 (keep_size (w := w) (g := g) (row := none) (kn HK))); replace HI0 := am (IsS120.below (IsS120.now) hb); replace BK628 := bb BK628 hb; replace BK629 := bb BK629 hb; replace HK := am (KeepBut.trans (kn HK) (KeepBut.of_below hb g none) (.inl rfl)); replace HB := bs HB hb; (try clear hb); (try clear ho0); obtain ⟨hcz55_0, hcz55_1, hfz55_0, hfz55_1⟩ := c2 BK628; obtain ⟨Ao56, co56, eo56⟩ := Kd.R_slice HO633.out; subst eo56) | ((with_reducible refine gate_callee (f := 126) rfl ?_); refine gl_ (some 9) Try.func126 #[.pointer (some ⟨g, 0, none⟩), .int .i64 6] ?_; (with_reducible refine (spec_l6Rd_pick.calls k g s0_0 s0_1 6 t634 t635 w0 _ ?side1 ?side2 A4.out).mono ?_); (case side1 => exact IsS120.now); (case side2 => exact bn HB); rintro e w57 ⟨rfl, hi, hb, hk⟩; refine ⟨_, rfl, ?_⟩; replace BK629 := am (KeepBut.blk hk (bkn BK629) NB629_0.out (by simp)); replace HO633 := am (Kd.R_mono (Kd.R_keep (IsS120.apart (show IsS120 w0 _ g s0_0 s0_1 from IsS120.now) (by (with_reducible repeat (first | apply Kd.R_alloc | apply Kd.R_drewN | apply Kd.R_drew)); exact (Kd.R_mono (Kd.R_far (p := ⟨gb628, 1, none⟩) (Kd.R_far (p := ⟨gb628, 0, none⟩) (Kd.R_types HO633.out BK628.out (by decide)) (fun _ hk => hk.2) (.int .i64 t630)) (fun _ hk => hk.2) (.slice Ao56 t631.length co56)) (fun _ h_ => h_.1))) (by decide)) hk (fun _ h => h.2)) (fun _ h => h.1)); replace BK628 := am (KeepBut.blk hk (g' := gb628) (o := .cells #[.int .i64 t630, .slice Ao56 t631.length co56] 34 (0, 0)) (by (with_reducible repeat (first | refine blk_drewN ?_ _ | refine blk_drew ?_ | refine blk_alloc ?_ _)); refine blk_put (cs := #[.int .i64 t630, .slice A1_1 l1_1.length c1_1]) ?_ 1 _ rfl; (with_reducible repeat (first | refine blk_drewN ?_ _ | refine blk_drew ?_ | refine blk_alloc ?_ _)); refine blk_put (cs := #[.int .i64 a1_0, .slice A1_1 l1_1.length c1_1]) ?_ 0 _ rfl; (with_reducible repeat (first | refine blk_drewN ?_ _ | refine blk_drew ?_ | refine blk_alloc ?_ _)); exact BK628.out) NB628_0.out (by simp)); replace HK := am (KeepBut.trans (kn HK) hk (.inl rfl)); replace HB := am hb; replace HI0 := am hi; (try clear hb); (try clear hk); (try clear hi); obtain ⟨hcz58_0, hcz58_1, hfz58_0, hfz58_1⟩ := c2 BK628) | ((with_reducible refine gate_builtin (b := .append) (xs := #[.tmp 39, .tmp 46]) rfl ?_); at_builtin; refine Kd.R_append k73 w.heap.size rfl (.tmp 39) (.tmp 46) 32 73 (.agg #[(.int .i64 0), (.int .i64 0)]) 16 rfl Try.underlying32 info73 rfl (by decide) (by omega) (.slice Ao56 t631.length co56) t631 (⟨wrap64 (t630 - 1), t630⟩ : S73) [.int .i64 (wrap64 (t630 - 1)), .int .i64 t630] (fun _ => True) (fun _ => False) rfl rfl ?aP (fun _ hk => hk.elim) ?aF ?aO (Below.refl _ _) ?aS ?aL ?_; (case aP => exact k73_mkM _ _ _ (⟨wrap64 (t630 - 1), t630⟩ : S73)); (case aF => exact (fun _ _ => trivial)); (case aO => exact (onR HO633)); (case aS => exact (keep_size (w := w) (g := g) (row := none) (kn HK))); (case aL => have := LMc48.out; omega); intro v650 w59 ho hb hg hat; rw [← Ny649.out] at ho; replace HI0 := am (IsS120.grown (IsS120.now) hg (IsS120.own_ne HI0.out HO633.out (by decide))); replace BK628 := am (blk_grown (bkn BK628) hg (Kd.R_ne HO633.out BK628.out (by decide))); replace BK629 := am (blk_grown (bkn BK629) hg (Kd.R_ne HO633.out BK629.out (by decide))); replace HB := am (below_weaken (bn HB) HL.out hb); replace HK := am (KeepBut.trans (kn HK) (KeepBut.of_grown hg g) (Kd.R_base2 HO633.out)); have HO651 := am ho; clear HO633; clear ho hb hg hat; obtain ⟨Ao60, co60, eo60⟩ := Kd.R_slice HO651.out; subst eo60; obtain ⟨hcz61_0, hcz61_1, hfz61_0, hfz61_1⟩ := c2 BK628; obtain ⟨hnb62, hnc62⟩ := n2 NB629_0 NB0_629; obtain ⟨hcz63_0, hcz63_1, hfz63_0, hfz63_1⟩ := c2 BK629))
    refine bodyPost_ret (results_cell_row rfl _ _ gb629 34 #[.int .i64 t630, .slice Ao60 y649.length co60] (0, 0) _ rfl (by (with_reducible repeat (first | refine blk_drewN ?_ _ | refine blk_drew ?_ | refine blk_alloc ?_ _)); refine blk_put (cs := #[.int .i64 t630, .slice none 0 0]) ?_ 1 _ rfl; (with_reducible repeat (first | refine blk_drewN ?_ _ | refine blk_drew ?_ | refine blk_alloc ?_ _)); refine blk_put (cs := #[.int .i64 0, .slice none 0 0]) ?_ 0 _ rfl; (with_reducible repeat (first | refine blk_drewN ?_ _ | refine blk_drew ?_ | refine blk_alloc ?_ _)); refine blk_far ?_ NB629_628.out _; (with_reducible repeat (first | refine blk_drewN ?_ _ | refine blk_drew ?_ | refine blk_alloc ?_ _)); exact BK629.out) Try.underlying34 rfl (by kernel_rfl)) rfl ?_
    exact ⟨_, by first | rfl | (simp [errW_none, errW_some] <;> rfl) | (simp [*, errW_none, errW_some] <;> rfl), by (with_reducible repeat (first | apply Kd.R_alloc | apply Kd.R_drewN | apply Kd.R_drew)); exact Kd.R_mono (Kd.R_far (p := ⟨gb629, 1, none⟩) (Kd.R_far (p := ⟨gb629, 0, none⟩) (Kd.R_far (p := ⟨gb628, 1, none⟩) (Kd.R_types (Kd.R_types HO651.out BK628.out (by decide)) BK629.out (by decide)) (fun _ hk => hk.1.2) (.slice Ao60 y649.length co60)) (fun _ hk => hk.2) (.int .i64 t630)) (fun _ hk => hk.2) (.slice Ao60 y649.length co60)) (fun _ hk => trivial), IsS120.now, bn HB, kn HK⟩
   ·rw [if_neg c47] at H
    have c47b0 : (t634 == 2) = false := beq_eq_false_iff_ne.mpr c47
    have c47b1 : (t634 != 2) = true := bne_iff_ne.mpr c47
    by_cases c64 : t634 = 3
    ·rw [if_pos c64] at H
     have c64b0 : (t634 == 3) = true := beq_iff_eq.mpr c64
     have c64b1 : (t634 != 3) = false := bne_eq_false_iff_eq.mpr c64
     clear c64
     by_cases c65 : (t631.length : Int) > 0
     ·rw [if_pos c65] at H
      have c65b0 := decide_eq_true c65
      have c65b1 : decide (0 < t631.length) = true := decide_eq_true (by omega)
      clear c65
      replace H := Option.bind_eq_some_iff.mp H
      obtain ⟨⟨t652, t653⟩, A660, H⟩ := H
      (try dsimp only at H)
      have A66 := am A660
      clear A660
      obtain ⟨c67, H⟩ := ig_ H
      have c67b0 := decide_eq_true c67
      clear c67
      obtain ⟨c68, H⟩ := ig_ H
      have c68b0 := decide_eq_true c68
      clear c68
      obtain ⟨y656, hy656⟩ : ∃ y_ : List (S73), y_ = (t631.set (t652 : Int).toNat (⟨(rd_T73 t631 t652).f1, (rd_T73 t631 t652).f0⟩ : S73)) := ⟨_, rfl⟩
      replace H : (some (t630, y656, t653)) = some (r1, r2, r3) := nh_ hy656 H
      have Ny656 := am hy656
      clear hy656
      simp only [Option.some.injEq, Prod.mk.injEq] at H
      obtain ⟨rfl, rfl, rfl⟩ := H
      go_enter Try.func138, Try.ntmps138
      try go_wp2_with (first | ((with_reducible refine gate_dst (N := 3) rfl ?_); refine be_ 3 #[.int .i64 a1_0, .slice A1_1 l1_1.length c1_1] 34 ?_; intro gb628 hg w70 hbox hb; replace HB := bs HB hb; have BK628 := am hbox; have GW628 := am (gk_ hg HK); have GE628 := am (Nat.le_trans HW0.out (gk_ hg HK) : w0.heap.size ≤ gb628); replace HK := am (KeepBut.trans (kn HK) (KeepBut.of_below hb g none) (.inl rfl)); have NB0_628 := am ((by rw [hg]; exact Nat.ne_of_lt (IsS120.lt (show IsS120 w0 _ g s0_0 s0_1 from IsS120.now)) : g ≠ gb628)); have NB628_0 := am ((by rw [hg]; exact Nat.ne_of_gt (IsS120.lt (show IsS120 w0 _ g s0_0 s0_1 from IsS120.now)) : gb628 ≠ g)); replace HI0 := am (IsS120.below (IsS120.now) hb); clear hb hbox hg) | ((with_reducible refine gate_dst (N := 4) rfl ?_); refine be_ 4 #[.int .i64 0, .slice none 0 0] 34 ?_; intro gb629 hg w71 hbox hb; replace HB := bs HB hb; have BK629 := am hbox; have GW629 := am (gk_ hg HK); have GE629 := am (Nat.le_trans HW0.out (gk_ hg HK) : w0.heap.size ≤ gb629); replace HK := am (KeepBut.trans (kn HK) (KeepBut.of_below hb g none) (.inl rfl)); obtain ⟨NB628_629, NB629_628⟩ := nb_ hg BK628; replace BK628 := bb BK628 hb; have NB0_629 := am ((by rw [hg]; exact Nat.ne_of_lt (IsS120.lt (show IsS120 w0 _ g s0_0 s0_1 from IsS120.now)) : g ≠ gb629)); have NB629_0 := am ((by rw [hg]; exact Nat.ne_of_gt (IsS120.lt (show IsS120 w0 _ g s0_0 s0_1 from IsS120.now)) : gb629 ≠ g)); replace HI0 := am (IsS120.below (IsS120.now) hb); clear hb hbox hg; obtain ⟨hnb72, hnc72⟩ := n2 NB628_629 NB629_628; obtain ⟨hnb73, hnc73⟩ := n2 NB628_0 NB0_628; obtain ⟨hcz74_0, hcz74_1, hfz74_0, hfz74_1⟩ := c2 BK628) | ((with_reducible refine gate_callee (f := 102) rfl ?_); refine gl_ (some 7) Try.func102 #[.agg #[.int .i64 a1_0, .slice A1_1 l1_1.length c1_1]] ?_; (with_reducible refine (spec_l1Copy.calls a1_0 _ _ l1_1 t630 t631 _ ?side1 ?side2 A3.out).mono ?_); (case side1 => exact Kd.C_foot_now HR1_1.out (kn HK)); (case side2 => exact HC1_1.out); rintro e w75 ⟨v632, rfl, ho0, hb⟩; refine ⟨_, rfl, ?_⟩; have HO633 := am (Kd.R_lower ho0 (keep_size (w := w) (g := g) (row := none) (kn HK))); replace HI0 := am (IsS120.below (IsS120.now) hb); replace BK628 := bb BK628 hb; replace BK629 := bb BK629 hb; replace HK := am (KeepBut.trans (kn HK) (KeepBut.of_below hb g none) (.inl rfl)); replace HB := bs HB hb; (try clear hb); (try clear ho0); obtain ⟨hcz76_0, hcz76_1, hfz76_0, hfz76_1⟩ := c2 BK628; obtain ⟨Ao77, co77, eo77⟩ := Kd.R_slice HO633.out; subst eo77) | ((with_reducible refine gate_callee (f := 126) rfl ?_); refine gl_ (some 9) Try.func126 #[.pointer (some ⟨g, 0, none⟩), .int .i64 6] ?_; (with_reducible refine (spec_l6Rd_pick.calls k g s0_0 s0_1 6 t634 t635 w0 _ ?side1 ?side2 A4.out).mono ?_); (case side1 => exact IsS120.now); (case side2 => exact bn HB); rintro e w78 ⟨rfl, hi, hb, hk⟩; refine ⟨_, rfl, ?_⟩; replace BK629 := am (KeepBut.blk hk (bkn BK629) NB629_0.out (by simp)); replace HO633 := am (Kd.R_mono (Kd.R_keep (IsS120.apart (show IsS120 w0 _ g s0_0 s0_1 from IsS120.now) (by (with_reducible repeat (first | apply Kd.R_alloc | apply Kd.R_drewN | apply Kd.R_drew)); exact (Kd.R_mono (Kd.R_far (p := ⟨gb628, 1, none⟩) (Kd.R_far (p := ⟨gb628, 0, none⟩) (Kd.R_types HO633.out BK628.out (by decide)) (fun _ hk => hk.2) (.int .i64 t630)) (fun _ hk => hk.2) (.slice Ao77 t631.length co77)) (fun _ h_ => h_.1))) (by decide)) hk (fun _ h => h.2)) (fun _ h => h.1)); replace BK628 := am (KeepBut.blk hk (g' := gb628) (o := .cells #[.int .i64 t630, .slice Ao77 t631.length co77] 34 (0, 0)) (by (with_reducible repeat (first | refine blk_drewN ?_ _ | refine blk_drew ?_ | refine blk_alloc ?_ _)); refine blk_put (cs := #[.int .i64 t630, .slice A1_1 l1_1.length c1_1]) ?_ 1 _ rfl; (with_reducible repeat (first | refine blk_drewN ?_ _ | refine blk_drew ?_ | refine blk_alloc ?_ _)); refine blk_put (cs := #[.int .i64 a1_0, .slice A1_1 l1_1.length c1_1]) ?_ 0 _ rfl; (with_reducible repeat (first | refine blk_drewN ?_ _ | refine blk_drew ?_ | refine blk_alloc ?_ _)); exact BK628.out) NB628_0.out (by simp)); replace HK := am (KeepBut.trans (kn HK) hk (.inl rfl)); replace HB := am hb; replace HI0 := am hi; (try clear hb); (try clear hk); (try clear hi); obtain ⟨hcz79_0, hcz79_1, hfz79_0, hfz79_1⟩ := c2 BK628) | ((with_reducible refine gate_callee (f := 126) rfl ?_); refine gl_ (some 59) Try.func126 #[.pointer (some ⟨g, 0, none⟩), .int .i64 (t631.length : Int)] ?_; (with_reducible refine (spec_l6Rd_pick.calls k g s0_0 t635 (t631.length : Int) t652 t653 w0 _ ?side1 ?side2 A66.out).mono ?_); (case side1 => exact IsS120.now); (case side2 => exact bn HB); rintro e w80 ⟨rfl, hi, hb, hk⟩; refine ⟨_, rfl, ?_⟩; replace BK628 := am (KeepBut.blk hk (bkn BK628) NB628_0.out (by simp)); replace BK629 := am (KeepBut.blk hk (bkn BK629) NB629_0.out (by simp)); replace HO633 := am (Kd.R_mono (Kd.R_keep (IsS120.apart (show IsS120 w0 _ g s0_0 t635 from IsS120.now) (onR HO633) (by decide)) hk (fun _ h => h.2)) (fun _ h => h.1)); replace HK := am (KeepBut.trans (kn HK) hk (.inl rfl)); replace HB := am hb; replace HI0 := am hi; (try clear hb); (try clear hk); (try clear hi)))
      replace HO633 := am (Kd.R_drew HO633.out)
      replace BK628 := am (blk_drew BK628.out)
      replace BK629 := am (blk_drew BK629.out)
      replace HI0 := am (IsS120.drew HI0.out)
      replace HK := am (keep_drew HK.out)
      replace HB := am (below_drew1 HB.out)
      have p654 : 0 ≤ (t652 : Int) := oa
      have q654 : t652 < (t631.length : Int) := oa
      obtain ⟨ad654, e654, hx654_0, hx654_1⟩ := at_T73 (Kd.R_reads' HO633.out).2.2 t652 p654 q654
      cases e654
      replace p654 := eq_true p654
      replace q654 := eq_true q654
      have p655 : 0 ≤ (t652 : Int) := oa
      have q655 : t652 < (t631.length : Int) := oa
      obtain ⟨ad655, e655, hx655_0, hx655_1⟩ := at_T73 (Kd.R_reads' HO633.out).2.2 t652 p655 q655
      obtain rfl : ad654 = ad655 := (by injection e655)
      replace p655 := eq_true p655
      replace q655 := eq_true q655
      have p69 : 0 ≤ (t652 : Int) := oa
      have q69 : (t652 : Int) < ((t631.length : Int) : Int) := oa
      obtain ⟨go69, co69, eo69, gb69, gl69, cl69, HG69⟩ := Kd.R_form HO633.out (by omega)
      (first | cases eo69 | (injection eo69 with ea_ en_ ec_; (first | subst ea_ | (injection ea_ with ea_; subst ea_)); subst ec_; clear en_))
      have GB69 := am gb69
      have GG69 := am HG69
      clear gb69 gl69 HG69
      (first | simp only [add_plain] at hx654_0 | skip)
      (first | simp only [add_plain] at hx654_1 | skip)
      (first | simp only [add_plain] at hx655_0 | skip)
      (first | simp only [add_plain] at hx655_1 | skip)
      obtain ⟨ce69, hcl69, hM69, hcc69, hfr69⟩ := Kd.R_elem HO633.out z73 (t652 : Int) p69 q69
      obtain rfl := k73_openM hM69
      have hx69_0 : World.cell? _ ⟨go69, (t652 : Int).toNat * 2, none⟩ = some (.int .i64 ((rd_T73 t631 t652).f0)) := hcc69 0 _ rfl
      have hx69_1 : World.cell? _ ⟨go69, (t652 : Int).toNat * 2 + 1, none⟩ = some (.int .i64 ((rd_T73 t631 t652).f1)) := hcc69 1 _ rfl
      have hf69_0 : World.frozen? _ ⟨go69, (t652 : Int).toNat * 2, none⟩ = false := hfr69 0
      have hf69_1 : World.frozen? _ ⟨go69, (t652 : Int).toNat * 2 + 1, none⟩ = false := hfr69 1
      clear hcl69 hcc69 hfr69; (try clear hM69)
      replace p69 := eq_true p69
      replace q69 := eq_true q69
      have HN0_go69 := am (show g ≠ go69 from by have h_ := IsS120.own_ne HI0.out HO633.out (by decide); intro e_; exact h_ (by rw [e_]; rfl))
      obtain ⟨ce82, hcl82, hM82, hcc82, hfr82⟩ := Kd.R_elem HO633.out z73 (t652 : Int) (oa) (by have h_ : (t652 : Int) < ((t631.length : Int) : Int) := oa; first | exact h_ | (have e_ := (Kd.R_reads' HO633.out).1; omega) | simpa using h_)
      obtain rfl := k73_openM hM82
      have HP82 := (Kd.R_seg HO633.out (t652 : Int) (oa) (by have h_ : (t652 : Int) < ((t631.length : Int) : Int) := oa; first | exact h_ | (have e_ := (Kd.R_reads' HO633.out).1; omega) | simpa using h_) (seg := [.int .i64 ((rd_T73 t631 t652).f1), .int .i64 ((rd_T73 t631 t652).f0)]) (j := 0) hcl82 hcc82 (show 2 ≤ 2 from by decide) (x' := (⟨(rd_T73 t631 t652).f1, (rd_T73 t631 t652).f0⟩ : S73)) (k73_mkM _ _ _ (⟨(rd_T73 t631 t652).f1, (rd_T73 t631 t652).f0⟩ : S73) ) (fun _ hk => hk)).1
      rw [← Ny656.out] at HP82
      have HQ82 := am HP82
      clear hcl82 hcc82 hfr82; (try clear hM82); clear HP82
      refine start_ (n := 18) (S := fun w' => w'.cell? ⟨gb628, 0, none⟩ = some (.int .i64 t630) ∧ w'.cell? ⟨gb628, 1, none⟩ = some (.slice (some ⟨go69, 0, none⟩) t631.length co77) ∧ w'.cell? ⟨go69, ((t652).toNat * 2), none⟩ = some (.int .i64 ((rd_T73 t631 t652).f0)) ∧ w'.cell? ⟨go69, ((t652).toNat * 2) + 1, none⟩ = some (.int .i64 ((rd_T73 t631 t652).f1)) ∧ w'.cell? ⟨go69, ((t652).toNat * 2), none⟩ = some (.int .i64 ((rd_T73 t631 t652).f0)) ∧ w'.cell? ⟨go69, ((t652).toNat * 2) + 1, none⟩ = some (.int .i64 ((rd_T73 t631 t652).f1))) (ds := [17]) #[false, false, false, false, false, false, false, false, false, false, false, false, false, false, false, false, false, false] (by kernel_rfl) rfl rfl ⟨(bc BK628 0), (bc BK628 1), hx654_0, hx654_1, hx655_0, hx655_1⟩ (fun hHeld => ?_); refine with_tabW spec_l71Spoil.tab13 spec_l71Spoil.bits13 (fun HT_ HW_ => ?_)
      generalize w80.drew = w81 at HO633 BK628 BK629 HI0 HK HB GG69 HQ82 hf69_0 hf69_1 hx654_0 hx654_1 hx655_0 hx655_1 hx69_0 hx69_1 hHeld ⊢
      refine pz_ 0 (some 60) HT_ ?_
      refine pz_ 2 (some 62) HT_ ?_
      refine pz_ 3 (some 63) HT_ ?_
      refine pz_ 5 (some 65) HT_ ?_
      refine pz_ 9 (some 69) HT_ ?_
      refine pz_ 11 (some 71) HT_ ?_
      refine tz_ 1 (some 61) HT_ HW_ hHeld ?_
      refine tz_ 4 (some 64) HT_ HW_ hHeld ?_
      refine pz_ 6 (some 66) HT_ ?_
      refine pz_ 7 (some 67) HT_ ?_
      refine tz_ 8 (some 68) HT_ HW_ hHeld ?_
      refine tz_ 10 (some 70) HT_ HW_ hHeld ?_
      refine pz_ 12 (some 72) HT_ ?_
      refine pz_ 13 (some 73) HT_ ?_
      refine tz_ 14 (some 74) HT_ HW_ hHeld ?_
      refine pz_ 15 (some 75) HT_ ?_
      refine pz_ 16 (some 76) HT_ ?_
      refine last_ (i := 17) (N := none) #[true, true, true, true, true, true, true, true, true, true, true, true, true, true, true, true, true, true] rfl rfl (one_of HT_.out (by kernel_rfl)) (by decide) (fun K hK => ?_)
      refine skip_ (w1 := ?_) (by rfl) rfl ?_ ?_
      rotate_left
      ·go_simp
       rfl
      refine hK.out _ _ ?_
      clear hK K
      refine done_ (done_of HT_.out (by kernel_rfl)) ?_
      have n0_ : Aside0 (Kd.R k73 73 ((w81.setCell ⟨go69, (t652 : Int).toNat * 2, none⟩ (.int .i64 ((rd_T73 t631 t652).f1))).setCell ⟨go69, (t652 : Int).toNat * 2 + 1, none⟩ (.int .i64 ((rd_T73 t631 t652).f0))) w.heap.size (fun _ => True) (.slice (some ⟨go69, 0, none⟩) t631.length co77) y656) := ⟨by (with_reducible repeat (first | apply Kd.R_alloc | apply Kd.R_drewN | apply Kd.R_drew)); exact HQ82.out⟩
      have n1_ : Aside0 (((w81.setCell ⟨go69, (t652 : Int).toNat * 2, none⟩ (.int .i64 ((rd_T73 t631 t652).f1))).setCell ⟨go69, (t652 : Int).toNat * 2 + 1, none⟩ (.int .i64 ((rd_T73 t631 t652).f0))).heap[gb628]? = some (.cells #[.int .i64 t630, .slice (some ⟨go69, 0, none⟩) t631.length co77] 34 (0, 0))) := ⟨by (with_reducible repeat (first | refine blk_drewN ?_ _ | refine blk_drew ?_ | refine blk_alloc ?_ _)); refine blk_far ?_ (by have h_ := Kd.R_ne HO633.out BK628.out (by decide); intro e_; exact h_ (by rw [e_]; rfl)) _; (with_reducible repeat (first | refine blk_drewN ?_ _ | refine blk_drew ?_ | refine blk_alloc ?_ _)); refine blk_far ?_ (by have h_ := Kd.R_ne HO633.out BK628.out (by decide); intro e_; exact h_ (by rw [e_]; rfl)) _; (with_reducible repeat (first | refine blk_drewN ?_ _ | refine blk_drew ?_ | refine blk_alloc ?_ _)); exact BK628.out⟩
      have n2_ : Aside0 (((w81.setCell ⟨go69, (t652 : Int).toNat * 2, none⟩ (.int .i64 ((rd_T73 t631 t652).f1))).setCell ⟨go69, (t652 : Int).toNat * 2 + 1, none⟩ (.int .i64 ((rd_T73 t631 t652).f0))).heap[gb629]? = some (.cells #[.int .i64 0, .slice none 0 0] 34 (0, 0))) := ⟨by (with_reducible repeat (first | refine blk_drewN ?_ _ | refine blk_drew ?_ | refine blk_alloc ?_ _)); refine blk_far ?_ (by have h_ := Kd.R_ne HO633.out BK629.out (by decide); intro e_; exact h_ (by rw [e_]; rfl)) _; (with_reducible repeat (first | refine blk_drewN ?_ _ | refine blk_drew ?_ | refine blk_alloc ?_ _)); refine blk_far ?_ (by have h_ := Kd.R_ne HO633.out BK629.out (by decide); intro e_; exact h_ (by rw [e_]; rfl)) _; (with_reducible repeat (first | refine blk_drewN ?_ _ | refine blk_drew ?_ | refine blk_alloc ?_ _)); exact BK629.out⟩
      have n3_ : Aside0 (IsS120 w0 ((w81.setCell ⟨go69, (t652 : Int).toNat * 2, none⟩ (.int .i64 ((rd_T73 t631 t652).f1))).setCell ⟨go69, (t652 : Int).toNat * 2 + 1, none⟩ (.int .i64 ((rd_T73 t631 t652).f0))) g s0_0 t653) := ⟨IsS120.now⟩
      have n4_ : Aside0 (KeepBut w ((w81.setCell ⟨go69, (t652 : Int).toNat * 2, none⟩ (.int .i64 ((rd_T73 t631 t652).f1))).setCell ⟨go69, (t652 : Int).toNat * 2 + 1, none⟩ (.int .i64 ((rd_T73 t631 t652).f0))) g none) := ⟨by repeat (first | (with_reducible first | exact HK.out | apply KeepBut.set_ | apply keep_drewN | apply keep_drew | apply keep_alloc | refine keep_far ?_ GB69.out _ | refine keep_far ?_ GB69.out _ | refine keep_far ?_ GW628.out _ | refine keep_far ?_ GW629.out _) | exact HK.out)⟩
      have n5_ : Aside0 (Below w0.heap.size w0 ((w81.setCell ⟨go69, (t652 : Int).toNat * 2, none⟩ (.int .i64 ((rd_T73 t631 t652).f1))).setCell ⟨go69, (t652 : Int).toNat * 2 + 1, none⟩ (.int .i64 ((rd_T73 t631 t652).f0)))) := ⟨by repeat (first | (with_reducible first | exact HB.out | apply below_alloc | apply pw_below_drewN | apply below_drew1 | refine below_set ?_ (Nat.le_trans HL.out GB69.out) | refine below_set ?_ (Nat.le_trans HL.out GB69.out) | refine below_set ?_ (IsS120.ge HI0.out) | refine below_set ?_ GE628.out | refine below_set ?_ GE629.out) | exact HB.out)⟩
      (try clear HO633)
      (try clear BK628)
      (try clear BK629)
      (try clear HI0)
      (try clear HK)
      (try clear HB)
      generalize ((w81.setCell ⟨go69, (t652 : Int).toNat * 2, none⟩ (.int .i64 ((rd_T73 t631 t652).f1))).setCell ⟨go69, (t652 : Int).toNat * 2 + 1, none⟩ (.int .i64 ((rd_T73 t631 t652).f0))) = w83 at n0_ n1_ n2_ n3_ n4_ n5_ ⊢
      have HO633 := n0_
      have BK628 := n1_
      have BK629 := n2_
      have HI0 := n3_
      have HK := n4_
      have HB := n5_
      clear n0_ n1_ n2_ n3_ n4_ n5_
      obtain ⟨hcz84_0, hcz84_1, hfz84_0, hfz84_1⟩ := c2 BK628
      obtain ⟨hnb85, hnc85⟩ := n2 NB629_0 NB0_629
      obtain ⟨hcz86_0, hcz86_1, hfz86_0, hfz86_1⟩ := c2 BK629
      try go_wp2
      refine bodyPost_ret (results_cell_row rfl _ _ gb629 34 #[.int .i64 t630, .slice (some ⟨go69, 0, none⟩) t631.length co77] (0, 0) _ rfl (by (with_reducible repeat (first | refine blk_drewN ?_ _ | refine blk_drew ?_ | refine blk_alloc ?_ _)); refine blk_put (cs := #[.int .i64 t630, .slice none 0 0]) ?_ 1 _ rfl; (with_reducible repeat (first | refine blk_drewN ?_ _ | refine blk_drew ?_ | refine blk_alloc ?_ _)); refine blk_put (cs := #[.int .i64 0, .slice none 0 0]) ?_ 0 _ rfl; (with_reducible repeat (first | refine blk_drewN ?_ _ | refine blk_drew ?_ | refine blk_alloc ?_ _)); exact BK629.out) Try.underlying34 rfl (by kernel_rfl)) rfl ?_
      exact ⟨_, by first | rfl | (simp [errW_none, errW_some] <;> rfl) | (simp [*, errW_none, errW_some] <;> rfl), by (with_reducible repeat (first | apply Kd.R_alloc | apply Kd.R_drewN | apply Kd.R_drew)); exact Kd.R_mono (Kd.R_far (p := ⟨gb629, 1, none⟩) (Kd.R_far (p := ⟨gb629, 0, none⟩) (Kd.R_types HO633.out BK629.out (by decide)) (fun _ hk => hk.2) (.int .i64 t630)) (fun _ hk => hk.2) (.slice (some ⟨go69, 0, none⟩) t631.length co77)) (fun _ hk => trivial), IsS120.now, bn HB, kn HK⟩
     ·rw [if_neg c65] at H
      have c65b0 := decide_eq_false c65
      have c65b1 : decide (0 < t631.length) = false := decide_eq_false (by omega)
      clear c65
      simp only [Option.some.injEq, Prod.mk.injEq] at H
      obtain ⟨rfl, rfl, rfl⟩ := H
      go_enter Try.func138, Try.ntmps138
      go_wp2_with (first | ((with_reducible refine gate_dst (N := 3) rfl ?_); refine be_ 3 #[.int .i64 a1_0, .slice A1_1 l1_1.length c1_1] 34 ?_; intro gb628 hg w87 hbox hb; replace HB := bs HB hb; have BK628 := am hbox; have GW628 := am (gk_ hg HK); have GE628 := am (Nat.le_trans HW0.out (gk_ hg HK) : w0.heap.size ≤ gb628); replace HK := am (KeepBut.trans (kn HK) (KeepBut.of_below hb g none) (.inl rfl)); have NB0_628 := am ((by rw [hg]; exact Nat.ne_of_lt (IsS120.lt (show IsS120 w0 _ g s0_0 s0_1 from IsS120.now)) : g ≠ gb628)); have NB628_0 := am ((by rw [hg]; exact Nat.ne_of_gt (IsS120.lt (show IsS120 w0 _ g s0_0 s0_1 from IsS120.now)) : gb628 ≠ g)); replace HI0 := am (IsS120.below (IsS120.now) hb); clear hb hbox hg) | ((with_reducible refine gate_dst (N := 4) rfl ?_); refine be_ 4 #[.int .i64 0, .slice none 0 0] 34 ?_; intro gb629 hg w88 hbox hb; replace HB := bs HB hb; have BK629 := am hbox; have GW629 := am (gk_ hg HK); have GE629 := am (Nat.le_trans HW0.out (gk_ hg HK) : w0.heap.size ≤ gb629); replace HK := am (KeepBut.trans (kn HK) (KeepBut.of_below hb g none) (.inl rfl)); obtain ⟨NB628_629, NB629_628⟩ := nb_ hg BK628; replace BK628 := bb BK628 hb; have NB0_629 := am ((by rw [hg]; exact Nat.ne_of_lt (IsS120.lt (show IsS120 w0 _ g s0_0 s0_1 from IsS120.now)) : g ≠ gb629)); have NB629_0 := am ((by rw [hg]; exact Nat.ne_of_gt (IsS120.lt (show IsS120 w0 _ g s0_0 s0_1 from IsS120.now)) : gb629 ≠ g)); replace HI0 := am (IsS120.below (IsS120.now) hb); clear hb hbox hg; obtain ⟨hnb89, hnc89⟩ := n2 NB628_629 NB629_628; obtain ⟨hnb90, hnc90⟩ := n2 NB628_0 NB0_628; obtain ⟨hcz91_0, hcz91_1, hfz91_0, hfz91_1⟩ := c2 BK628) | ((with_reducible refine gate_callee (f := 102) rfl ?_); refine gl_ (some 7) Try.func102 #[.agg #[.int .i64 a1_0, .slice A1_1 l1_1.length c1_1]] ?_; (with_reducible refine (spec_l1Copy.calls a1_0 _ _ l1_1 t630 t631 _ ?side1 ?side2 A3.out).mono ?_); (case side1 => exact Kd.C_foot_now HR1_1.out (kn HK)); (case side2 => exact HC1_1.out); rintro e w92 ⟨v632, rfl, ho0, hb⟩; refine ⟨_, rfl, ?_⟩; have HO633 := am (Kd.R_lower ho0 (keep_size (w := w) (g := g) (row := none) (kn HK))); replace HI0 := am (IsS120.below (IsS120.now) hb); replace BK628 := bb BK628 hb; replace BK629 := bb BK629 hb; replace HK := am (KeepBut.trans (kn HK) (KeepBut.of_below hb g none) (.inl rfl)); replace HB := bs HB hb; (try clear hb); (try clear ho0); obtain ⟨hcz93_0, hcz93_1, hfz93_0, hfz93_1⟩ := c2 BK628; obtain ⟨Ao94, co94, eo94⟩ := Kd.R_slice HO633.out; subst eo94) | ((with_reducible refine gate_callee (f := 126) rfl ?_); refine gl_ (some 9) Try.func126 #[.pointer (some ⟨g, 0, none⟩), .int .i64 6] ?_; (with_reducible refine (spec_l6Rd_pick.calls k g s0_0 s0_1 6 t634 t635 w0 _ ?side1 ?side2 A4.out).mono ?_); (case side1 => exact IsS120.now); (case side2 => exact bn HB); rintro e w95 ⟨rfl, hi, hb, hk⟩; refine ⟨_, rfl, ?_⟩; replace BK629 := am (KeepBut.blk hk (bkn BK629) NB629_0.out (by simp)); replace HO633 := am (Kd.R_mono (Kd.R_keep (IsS120.apart (show IsS120 w0 _ g s0_0 s0_1 from IsS120.now) (by (with_reducible repeat (first | apply Kd.R_alloc | apply Kd.R_drewN | apply Kd.R_drew)); exact (Kd.R_mono (Kd.R_far (p := ⟨gb628, 1, none⟩) (Kd.R_far (p := ⟨gb628, 0, none⟩) (Kd.R_types HO633.out BK628.out (by decide)) (fun _ hk => hk.2) (.int .i64 t630)) (fun _ hk => hk.2) (.slice Ao94 t631.length co94)) (fun _ h_ => h_.1))) (by decide)) hk (fun _ h => h.2)) (fun _ h => h.1)); replace BK628 := am (KeepBut.blk hk (g' := gb628) (o := .cells #[.int .i64 t630, .slice Ao94 t631.length co94] 34 (0, 0)) (by (with_reducible repeat (first | refine blk_drewN ?_ _ | refine blk_drew ?_ | refine blk_alloc ?_ _)); refine blk_put (cs := #[.int .i64 t630, .slice A1_1 l1_1.length c1_1]) ?_ 1 _ rfl; (with_reducible repeat (first | refine blk_drewN ?_ _ | refine blk_drew ?_ | refine blk_alloc ?_ _)); refine blk_put (cs := #[.int .i64 a1_0, .slice A1_1 l1_1.length c1_1]) ?_ 0 _ rfl; (with_reducible repeat (first | refine blk_drewN ?_ _ | refine blk_drew ?_ | refine blk_alloc ?_ _)); exact BK628.out) NB628_0.out (by simp)); replace HK := am (KeepBut.trans (kn HK) hk (.inl rfl)); replace HB := am hb; replace HI0 := am hi; (try clear hb); (try clear hk); (try clear hi); obtain ⟨hcz96_0, hcz96_1, hfz96_0, hfz96_1⟩ := c2 BK628; obtain ⟨hnb97, hnc97⟩ := n2 NB629_0 NB0_629; obtain ⟨hcz98_0, hcz98_1, hfz98_0, hfz98_1⟩ := c2 BK629))
      refine bodyPost_ret (results_cell_row rfl _ _ gb629 34 #[.int .i64 t630, .slice Ao94 t631.length co94] (0, 0) _ rfl (by (with_reducible repeat (first | refine blk_drewN ?_ _ | refine blk_drew ?_ | refine blk_alloc ?_ _)); refine blk_put (cs := #[.int .i64 t630, .slice none 0 0]) ?_ 1 _ rfl; (with_reducible repeat (first | refine blk_drewN ?_ _ | refine blk_drew ?_ | refine blk_alloc ?_ _)); refine blk_put (cs := #[.int .i64 0, .slice none 0 0]) ?_ 0 _ rfl; (with_reducible repeat (first | refine blk_drewN ?_ _ | refine blk_drew ?_ | refine blk_alloc ?_ _)); exact BK629.out) Try.underlying34 rfl (by kernel_rfl)) rfl ?_
      exact ⟨_, by first | rfl | (simp [errW_none, errW_some] <;> rfl) | (simp [*, errW_none, errW_some] <;> rfl), by (with_reducible repeat (first | apply Kd.R_alloc | apply Kd.R_drewN | apply Kd.R_drew)); exact Kd.R_mono (Kd.R_far (p := ⟨gb629, 1, none⟩) (Kd.R_far (p := ⟨gb629, 0, none⟩) (Kd.R_types HO633.out BK629.out (by decide)) (fun _ hk => hk.2) (.int .i64 t630)) (fun _ hk => hk.2) (.slice Ao94 t631.length co94)) (fun _ hk => trivial), IsS120.now, bn HB, kn HK⟩
    ·rw [if_neg c64] at H
     have c64b0 : (t634 == 3) = false := beq_eq_false_iff_ne.mpr c64
     have c64b1 : (t634 != 3) = true := bne_iff_ne.mpr c64
     by_cases c99 : t634 = 4
     ·rw [if_pos c99] at H
      have c99b0 : (t634 == 4) = true := beq_iff_eq.mpr c99
      have c99b1 : (t634 != 4) = false := bne_eq_false_iff_eq.mpr c99
      clear c99
      by_cases c100 : (t631.length : Int) > 1
      ·rw [if_pos c100] at H
       have c100b0 := decide_eq_true c100
       have c100b1 : decide (1 < t631.length) = true := decide_eq_true (by omega)
       clear c100
       obtain ⟨c101, H⟩ := ig_ H
       have c101b0 := decide_eq_true c101
       have c101b1 : decide (0 < t631.length) = true := decide_eq_true (by omega)
       clear c101
       obtain ⟨c102, H⟩ := ig_ H
       have LMc102 := am c102
       clear c102
       obtain ⟨y658, hy658⟩ : ∃ y_ : List (S73), y_ = (t631 ++ [(⟨(rd_T73 t631 0).f0, (rd_T73 t631 0).f1⟩ : S73)]) := ⟨_, rfl⟩
       replace H : (some (t630, y658, t635)) = some (r1, r2, r3) := nh_ hy658 H
       have Ny658 := am hy658
       clear hy658
       simp only [Option.some.injEq, Prod.mk.injEq] at H
       obtain ⟨rfl, rfl, rfl⟩ := H
       go_enter Try.func138, Try.ntmps138
       try go_wp2_with (first | ((with_reducible refine gate_dst (N := 3) rfl ?_); refine be_ 3 #[.int .i64 a1_0, .slice A1_1 l1_1.length c1_1] 34 ?_; intro gb628 hg w103 hbox hb; replace HB := bs HB hb; have BK628 := am hbox; have GW628 := am (gk_ hg HK); have GE628 := am (Nat.le_trans HW0.out (gk_ hg HK) : w0.heap.size ≤ gb628); replace HK := am (KeepBut.trans (kn HK) (KeepBut.of_below hb g none) (.inl rfl)); have NB0_628 := am ((by rw [hg]; exact Nat.ne_of_lt (IsS120.lt (show IsS120 w0 _ g s0_0 s0_1 from IsS120.now)) : g ≠ gb628)); have NB628_0 := am ((by rw [hg]; exact Nat.ne_of_gt (IsS120.lt (show IsS120 w0 _ g s0_0 s0_1 from IsS120.now)) : gb628 ≠ g)); replace HI0 := am (IsS120.below (IsS120.now) hb); clear hb hbox hg) | ((with_reducible refine gate_dst (N := 4) rfl ?_); refine be_ 4 #[.int .i64 0, .slice none 0 0] 34 ?_; intro gb629 hg w104 hbox hb; replace HB := bs HB hb; have BK629 := am hbox; have GW629 := am (gk_ hg HK); have GE629 := am (Nat.le_trans HW0.out (gk_ hg HK) : w0.heap.size ≤ gb629); replace HK := am (KeepBut.trans (kn HK) (KeepBut.of_below hb g none) (.inl rfl)); obtain ⟨NB628_629, NB629_628⟩ := nb_ hg BK628; replace BK628 := bb BK628 hb; have NB0_629 := am ((by rw [hg]; exact Nat.ne_of_lt (IsS120.lt (show IsS120 w0 _ g s0_0 s0_1 from IsS120.now)) : g ≠ gb629)); have NB629_0 := am ((by rw [hg]; exact Nat.ne_of_gt (IsS120.lt (show IsS120 w0 _ g s0_0 s0_1 from IsS120.now)) : gb629 ≠ g)); replace HI0 := am (IsS120.below (IsS120.now) hb); clear hb hbox hg; obtain ⟨hnb105, hnc105⟩ := n2 NB628_629 NB629_628; obtain ⟨hnb106, hnc106⟩ := n2 NB628_0 NB0_628; obtain ⟨hcz107_0, hcz107_1, hfz107_0, hfz107_1⟩ := c2 BK628) | ((with_reducible refine gate_callee (f := 102) rfl ?_); refine gl_ (some 7) Try.func102 #[.agg #[.int .i64 a1_0, .slice A1_1 l1_1.length c1_1]] ?_; (with_reducible refine (spec_l1Copy.calls a1_0 _ _ l1_1 t630 t631 _ ?side1 ?side2 A3.out).mono ?_); (case side1 => exact Kd.C_foot_now HR1_1.out (kn HK)); (case side2 => exact HC1_1.out); rintro e w108 ⟨v632, rfl, ho0, hb⟩; refine ⟨_, rfl, ?_⟩; have HO633 := am (Kd.R_lower ho0 (keep_size (w := w) (g := g) (row := none) (kn HK))); replace HI0 := am (IsS120.below (IsS120.now) hb); replace BK628 := bb BK628 hb; replace BK629 := bb BK629 hb; replace HK := am (KeepBut.trans (kn HK) (KeepBut.of_below hb g none) (.inl rfl)); replace HB := bs HB hb; (try clear hb); (try clear ho0); obtain ⟨hcz109_0, hcz109_1, hfz109_0, hfz109_1⟩ := c2 BK628; obtain ⟨Ao110, co110, eo110⟩ := Kd.R_slice HO633.out; subst eo110) | ((with_reducible refine gate_callee (f := 126) rfl ?_); refine gl_ (some 9) Try.func126 #[.pointer (some ⟨g, 0, none⟩), .int .i64 6] ?_; (with_reducible refine (spec_l6Rd_pick.calls k g s0_0 s0_1 6 t634 t635 w0 _ ?side1 ?side2 A4.out).mono ?_); (case side1 => exact IsS120.now); (case side2 => exact bn HB); rintro e w111 ⟨rfl, hi, hb, hk⟩; refine ⟨_, rfl, ?_⟩; replace BK629 := am (KeepBut.blk hk (bkn BK629) NB629_0.out (by simp)); replace HO633 := am (Kd.R_mono (Kd.R_keep (IsS120.apart (show IsS120 w0 _ g s0_0 s0_1 from IsS120.now) (by (with_reducible repeat (first | apply Kd.R_alloc | apply Kd.R_drewN | apply Kd.R_drew)); exact (Kd.R_mono (Kd.R_far (p := ⟨gb628, 1, none⟩) (Kd.R_far (p := ⟨gb628, 0, none⟩) (Kd.R_types HO633.out BK628.out (by decide)) (fun _ hk => hk.2) (.int .i64 t630)) (fun _ hk => hk.2) (.slice Ao110 t631.length co110)) (fun _ h_ => h_.1))) (by decide)) hk (fun _ h => h.2)) (fun _ h => h.1)); replace BK628 := am (KeepBut.blk hk (g' := gb628) (o := .cells #[.int .i64 t630, .slice Ao110 t631.length co110] 34 (0, 0)) (by (with_reducible repeat (first | refine blk_drewN ?_ _ | refine blk_drew ?_ | refine blk_alloc ?_ _)); refine blk_put (cs := #[.int .i64 t630, .slice A1_1 l1_1.length c1_1]) ?_ 1 _ rfl; (with_reducible repeat (first | refine blk_drewN ?_ _ | refine blk_drew ?_ | refine blk_alloc ?_ _)); refine blk_put (cs := #[.int .i64 a1_0, .slice A1_1 l1_1.length c1_1]) ?_ 0 _ rfl; (with_reducible repeat (first | refine blk_drewN ?_ _ | refine blk_drew ?_ | refine blk_alloc ?_ _)); exact BK628.out) NB628_0.out (by simp)); replace HK := am (KeepBut.trans (kn HK) hk (.inl rfl)); replace HB := am hb; replace HI0 := am hi; (try clear hb); (try clear hk); (try clear hi); obtain ⟨hcz112_0, hcz112_1, hfz112_0, hfz112_1⟩ := c2 BK628))
       replace HO633 := am (Kd.R_drew HO633.out)
       replace BK628 := am (blk_drew BK628.out)
       replace BK629 := am (blk_drew BK629.out)
       replace HI0 := am (IsS120.drew HI0.out)
       replace HK := am (keep_drew HK.out)
       replace HB := am (below_drew1 HB.out)
       have p657 : 0 ≤ (0 : Int) := (by omega)
       have q657 : 0 < (t631.length : Int) := oa
       obtain ⟨ad657, e657, hx657_0, hx657_1⟩ := at_T73 (Kd.R_reads' HO633.out).2.2 0 p657 q657
       cases e657
       have qi657 : (0 < t631.length) = True := eq_true (by omega)
       (try rw [show ((0 : Int)).toNat = 0 from rfl] at hx657_0)
       (try rw [show 0 * 2 = 0 from rfl] at hx657_0)
       (try rw [Addr.add_zero'] at hx657_0)
       (try rw [show ((0 : Int)).toNat = 0 from rfl] at hx657_1)
       (try rw [show 0 * 2 = 0 from rfl] at hx657_1)
       (try rw [Addr.add_zero'] at hx657_1)
       replace p657 := eq_true p657
       replace q657 := eq_true q657
       refine start_ (n := 10) (S := fun w' => w'.cell? ⟨gb628, 0, none⟩ = some (.int .i64 t630) ∧ w'.cell? ⟨gb628, 1, none⟩ = some (.slice (some ad657) t631.length co110) ∧ w'.cell? ad657 = some (.int .i64 ((rd_T73 t631 0).f0)) ∧ w'.cell? ⟨ad657.block, ad657.off + 1, none⟩ = some (.int .i64 ((rd_T73 t631 0).f1))) (ds := [7, 9]) #[false, false, false, false, false, false, false, false, false, false] (by kernel_rfl) rfl rfl ⟨(bc BK628 0), (bc BK628 1), hx657_0, hx657_1⟩ (fun hHeld => ?_); refine with_tabW spec_l71Spoil.tab16 spec_l71Spoil.bits16 (fun HT_ HW_ => ?_)
       generalize w111.drew = w113 at HO633 BK628 BK629 HI0 HK HB hx657_0 hx657_1 hHeld ⊢
       refine pz_ 0 (some 83) HT_ ?_
       refine pz_ 2 (some 85) HT_ ?_
       refine tz_ 1 (some 84) HT_ HW_ hHeld ?_
       refine tz_ 3 (some 86) HT_ HW_ hHeld ?_
       refine pz_ 4 (some 87) HT_ ?_
       refine tz_ 5 (some 88) HT_ HW_ hHeld ?_
       refine one_ (i := 6) (N := some 89) #[true, true, true, true, true, true, true, false, false, false] rfl rfl (one_of HT_.out (by kernel_rfl)) (by decide) (fun K hK => ?_)
       refine value_ (w1 := ?_) (v := ?_) (by rfl) rfl ?_ ?_
       rotate_left 2
       ·go_simp
        constructor
        ·rfl
        ·rfl
       refine hK.out _ _ ⟨(blk_cell (blk_alloc BK628.out _) 0).trans rfl, (blk_cell (blk_alloc BK628.out _) 1).trans rfl, (World.cell?_alloc_lt _ _ _ (World.block_lt_of_cell? _ _ (hHeld.2.2.1))).trans (hHeld.2.2.1), (World.cell?_alloc_lt _ _ _ (World.block_lt_of_cell? _ _ (hHeld.2.2.2))).trans (hHeld.2.2.2)⟩ (fun hHeld => ?_)
       clear hK K
       refine nz_ 89 ?_
       refine last_ (i := 7) (N := some 90) #[true, true, true, true, true, true, true, true, false, false] rfl rfl (one_of HT_.out (by kernel_rfl)) (by decide) (fun K hK => ?_)
       refine Kd.R_append_step k73 w.heap.size (by rfl) (.tmp 84) (.tmp 89) 32 73 (.agg #[(.int .i64 0), (.int .i64 0)]) 16 rfl Try.underlying32 info73 rfl (by decide) (by omega) (.slice (some ad657) t631.length co110) t631 (⟨(rd_T73 t631 0).f0, (rd_T73 t631 0).f1⟩ : S73) [.int .i64 ((rd_T73 t631 0).f0), .int .i64 ((rd_T73 t631 0).f1)] (fun _ => True) (fun _ => False) rfl rfl ?aP (fun _ hk => hk.elim) ?aF ?aO (Below.refl _ _) ?aS ?aL ?_
       (case aP => exact k73_mkM _ _ _ (⟨(rd_T73 t631 0).f0, (rd_T73 t631 0).f1⟩ : S73))
       (case aF => exact (fun _ _ => trivial))
       (case aO => exact (onR HO633))
       (case aS => exact (keep_size (w := w) (g := g) (row := none) (kn HK)))
       (case aL => have := LMc102.out; omega)
       intro v659 w114 ho hb hg hat
       rw [← Ny658.out] at ho
       have n0_ := am (IsS120.grown (IsS120.now) hg (IsS120.own_ne HI0.out HO633.out (by decide)))
       have n1_ := am (blk_grown (bkn BK628) hg (Kd.R_ne HO633.out BK628.out (by decide)))
       have n2_ := am (blk_grown (bkn BK629) hg (Kd.R_ne HO633.out BK629.out (by decide)))
       have n3_ := am (below_weaken (bn HB) HL.out hb)
       have n4_ := am (KeepBut.trans (kn HK) (KeepBut.of_grown hg g) (Kd.R_base2 HO633.out))
       have n5_ := am ho
       clear HI0 BK628 BK629 HB HK HO633
       have HI0 := n0_
       have BK628 := n1_
       have BK629 := n2_
       have HB := n3_
       have HK := n4_
       have HO660 := n5_
       clear n0_ n1_ n2_ n3_ n4_ n5_ ho hb hg hat
       obtain ⟨Ao115, co115, eo115⟩ := Kd.R_slice HO660.out
       (first | subst eo115 | (injection eo115 with f1_ f2_ f3_; have f4_ := f1_.symm; have f5_ := f3_.symm; clear f1_ f2_ f3_; subst f4_; subst f5_))
       refine hK.out _ _ ?_
       clear hK K
       refine nz_ 90 ?_
       refine pz_ 8 (some 91) HT_ ?_
       refine last_ (i := 9) (N := none) #[true, true, true, true, true, true, true, true, true, true] rfl rfl (one_of HT_.out (by kernel_rfl)) (by decide) (fun K hK => ?_)
       have hs116 := bc BK628 1
       have hfs116 := blk_frozen BK628.out 1
       have hns116_1 := NB629_628.out
       have hms116_1 := NB628_629.out
       refine skip_ (w1 := ?_) (by rfl) rfl ?_ ?_
       rotate_left
       ·go_simp
        rfl
       refine hK.out _ _ ?_
       clear hK K
       refine done_ (done_of HT_.out (by kernel_rfl)) ?_
       obtain ⟨hcz117_0, hcz117_1, hfz117_0, hfz117_1⟩ := c2 BK628
       obtain ⟨hnb118, hnc118⟩ := n2 NB629_0 NB0_629
       obtain ⟨hcz119_0, hcz119_1, hfz119_0, hfz119_1⟩ := c2 BK629
       try go_wp2
       refine bodyPost_ret (results_cell_row rfl _ _ gb629 34 #[.int .i64 t630, .slice Ao115 y658.length co115] (0, 0) _ rfl (by (with_reducible repeat (first | refine blk_drewN ?_ _ | refine blk_drew ?_ | refine blk_alloc ?_ _)); refine blk_put (cs := #[.int .i64 t630, .slice none 0 0]) ?_ 1 _ rfl; (with_reducible repeat (first | refine blk_drewN ?_ _ | refine blk_drew ?_ | refine blk_alloc ?_ _)); refine blk_put (cs := #[.int .i64 0, .slice none 0 0]) ?_ 0 _ rfl; (with_reducible repeat (first | refine blk_drewN ?_ _ | refine blk_drew ?_ | refine blk_alloc ?_ _)); refine blk_far ?_ NB629_628.out _; (with_reducible repeat (first | refine blk_drewN ?_ _ | refine blk_drew ?_ | refine blk_alloc ?_ _)); exact BK629.out) Try.underlying34 rfl (by kernel_rfl)) rfl ?_
       exact ⟨_, by first | rfl | (simp [errW_none, errW_some] <;> rfl) | (simp [*, errW_none, errW_some] <;> rfl), by (with_reducible repeat (first | apply Kd.R_alloc | apply Kd.R_drewN | apply Kd.R_drew)); exact Kd.R_mono (Kd.R_far (p := ⟨gb629, 1, none⟩) (Kd.R_far (p := ⟨gb629, 0, none⟩) (Kd.R_far (p := ⟨gb628, 1, none⟩) (Kd.R_types (Kd.R_types HO660.out BK628.out (by decide)) BK629.out (by decide)) (fun _ hk => hk.1.2) (.slice Ao115 y658.length co115)) (fun _ hk => hk.2) (.int .i64 t630)) (fun _ hk => hk.2) (.slice Ao115 y658.length co115)) (fun _ hk => trivial), IsS120.now, bn HB, kn HK⟩
      ·rw [if_neg c100] at H
       have c100b0 := decide_eq_false c100
       have c100b1 : decide (1 < t631.length) = false := decide_eq_false (by omega)
       clear c100
       simp only [Option.some.injEq, Prod.mk.injEq] at H
       obtain ⟨rfl, rfl, rfl⟩ := H
       go_enter Try.func138, Try.ntmps138
       go_wp2_with (first | ((with_reducible refine gate_dst (N := 3) rfl ?_); refine be_ 3 #[.int .i64 a1_0, .slice A1_1 l1_1.length c1_1] 34 ?_; intro gb628 hg w120 hbox hb; replace HB := bs HB hb; have BK628 := am hbox; have GW628 := am (gk_ hg HK); have GE628 := am (Nat.le_trans HW0.out (gk_ hg HK) : w0.heap.size ≤ gb628); replace HK := am (KeepBut.trans (kn HK) (KeepBut.of_below hb g none) (.inl rfl)); have NB0_628 := am ((by rw [hg]; exact Nat.ne_of_lt (IsS120.lt (show IsS120 w0 _ g s0_0 s0_1 from IsS120.now)) : g ≠ gb628)); have NB628_0 := am ((by rw [hg]; exact Nat.ne_of_gt (IsS120.lt (show IsS120 w0 _ g s0_0 s0_1 from IsS120.now)) : gb628 ≠ g)); replace HI0 := am (IsS120.below (IsS120.now) hb); clear hb hbox hg) | ((with_reducible refine gate_dst (N := 4) rfl ?_); refine be_ 4 #[.int .i64 0, .slice none 0 0] 34 ?_; intro gb629 hg w121 hbox hb; replace HB := bs HB hb; have BK629 := am hbox; have GW629 := am (gk_ hg HK); have GE629 := am (Nat.le_trans HW0.out (gk_ hg HK) : w0.heap.size ≤ gb629); replace HK := am (KeepBut.trans (kn HK) (KeepBut.of_below hb g none) (.inl rfl)); obtain ⟨NB628_629, NB629_628⟩ := nb_ hg BK628; replace BK628 := bb BK628 hb; have NB0_629 := am ((by rw [hg]; exact Nat.ne_of_lt (IsS120.lt (show IsS120 w0 _ g s0_0 s0_1 from IsS120.now)) : g ≠ gb629)); have NB629_0 := am ((by rw [hg]; exact Nat.ne_of_gt (IsS120.lt (show IsS120 w0 _ g s0_0 s0_1 from IsS120.now)) : gb629 ≠ g)); replace HI0 := am (IsS120.below (IsS120.now) hb); clear hb hbox hg; obtain ⟨hnb122, hnc122⟩ := n2 NB628_629 NB629_628; obtain ⟨hnb123, hnc123⟩ := n2 NB628_0 NB0_628; obtain ⟨hcz124_0, hcz124_1, hfz124_0, hfz124_1⟩ := c2 BK628) | ((with_reducible refine gate_callee (f := 102) rfl ?_); refine gl_ (some 7) Try.func102 #[.agg #[.int .i64 a1_0, .slice A1_1 l1_1.length c1_1]] ?_; (with_reducible refine (spec_l1Copy.calls a1_0 _ _ l1_1 t630 t631 _ ?side1 ?side2 A3.out).mono ?_); (case side1 => exact Kd.C_foot_now HR1_1.out (kn HK)); (case side2 => exact HC1_1.out); rintro e w125 ⟨v632, rfl, ho0, hb⟩; refine ⟨_, rfl, ?_⟩; have HO633 := am (Kd.R_lower ho0 (keep_size (w := w) (g := g) (row := none) (kn HK))); replace HI0 := am (IsS120.below (IsS120.now) hb); replace BK628 := bb BK628 hb; replace BK629 := bb BK629 hb; replace HK := am (KeepBut.trans (kn HK) (KeepBut.of_below hb g none) (.inl rfl)); replace HB := bs HB hb; (try clear hb); (try clear ho0); obtain ⟨hcz126_0, hcz126_1, hfz126_0, hfz126_1⟩ := c2 BK628; obtain ⟨Ao127, co127, eo127⟩ := Kd.R_slice HO633.out; subst eo127) | ((with_reducible refine gate_callee (f := 126) rfl ?_); refine gl_ (some 9) Try.func126 #[.pointer (some ⟨g, 0, none⟩), .int .i64 6] ?_; (with_reducible refine (spec_l6Rd_pick.calls k g s0_0 s0_1 6 t634 t635 w0 _ ?side1 ?side2 A4.out).mono ?_); (case side1 => exact IsS120.now); (case side2 => exact bn HB); rintro e w128 ⟨rfl, hi, hb, hk⟩; refine ⟨_, rfl, ?_⟩; replace BK629 := am (KeepBut.blk hk (bkn BK629) NB629_0.out (by simp)); replace HO633 := am (Kd.R_mono (Kd.R_keep (IsS120.apart (show IsS120 w0 _ g s0_0 s0_1 from IsS120.now) (by (with_reducible repeat (first | apply Kd.R_alloc | apply Kd.R_drewN | apply Kd.R_drew)); exact (Kd.R_mono (Kd.R_far (p := ⟨gb628, 1, none⟩) (Kd.R_far (p := ⟨gb628, 0, none⟩) (Kd.R_types HO633.out BK628.out (by decide)) (fun _ hk => hk.2) (.int .i64 t630)) (fun _ hk => hk.2) (.slice Ao127 t631.length co127)) (fun _ h_ => h_.1))) (by decide)) hk (fun _ h => h.2)) (fun _ h => h.1)); replace BK628 := am (KeepBut.blk hk (g' := gb628) (o := .cells #[.int .i64 t630, .slice Ao127 t631.length co127] 34 (0, 0)) (by (with_reducible repeat (first | refine blk_drewN ?_ _ | refine blk_drew ?_ | refine blk_alloc ?_ _)); refine blk_put (cs := #[.int .i64 t630, .slice A1_1 l1_1.length c1_1]) ?_ 1 _ rfl; (with_reducible repeat (first | refine blk_drewN ?_ _ | refine blk_drew ?_ | refine blk_alloc ?_ _)); refine blk_put (cs := #[.int .i64 a1_0, .slice A1_1 l1_1.length c1_1]) ?_ 0 _ rfl; (with_reducible repeat (first | refine blk_drewN ?_ _ | refine blk_drew ?_ | refine blk_alloc ?_ _)); exact BK628.out) NB628_0.out (by simp)); replace HK := am (KeepBut.trans (kn HK) hk (.inl rfl)); replace HB := am hb; replace HI0 := am hi; (try clear hb); (try clear hk); (try clear hi); obtain ⟨hcz129_0, hcz129_1, hfz129_0, hfz129_1⟩ := c2 BK628; obtain ⟨hnb130, hnc130⟩ := n2 NB629_0 NB0_629; obtain ⟨hcz131_0, hcz131_1, hfz131_0, hfz131_1⟩ := c2 BK629))
       refine bodyPost_ret (results_cell_row rfl _ _ gb629 34 #[.int .i64 t630, .slice Ao127 t631.length co127] (0, 0) _ rfl (by (with_reducible repeat (first | refine blk_drewN ?_ _ | refine blk_drew ?_ | refine blk_alloc ?_ _)); refine blk_put (cs := #[.int .i64 t630, .slice none 0 0]) ?_ 1 _ rfl; (with_reducible repeat (first | refine blk_drewN ?_ _ | refine blk_drew ?_ | refine blk_alloc ?_ _)); refine blk_put (cs := #[.int .i64 0, .slice none 0 0]) ?_ 0 _ rfl; (with_reducible repeat (first | refine blk_drewN ?_ _ | refine blk_drew ?_ | refine blk_alloc ?_ _)); exact BK629.out) Try.underlying34 rfl (by kernel_rfl)) rfl ?_
       exact ⟨_, by first | rfl | (simp [errW_none, errW_some] <;> rfl) | (simp [*, errW_none, errW_some] <;> rfl), by (with_reducible repeat (first | apply Kd.R_alloc | apply Kd.R_drewN | apply Kd.R_drew)); exact Kd.R_mono (Kd.R_far (p := ⟨gb629, 1, none⟩) (Kd.R_far (p := ⟨gb629, 0, none⟩) (Kd.R_types HO633.out BK629.out (by decide)) (fun _ hk => hk.2) (.int .i64 t630)) (fun _ hk => hk.2) (.slice Ao127 t631.length co127)) (fun _ hk => trivial), IsS120.now, bn HB, kn HK⟩
     ·rw [if_neg c99] at H
      have c99b0 : (t634 == 4) = false := beq_eq_false_iff_ne.mpr c99
      have c99b1 : (t634 != 4) = true := bne_iff_ne.mpr c99
      obtain ⟨y661, hy661⟩ : ∃ y_ : List (S73), y_ = (([(⟨(-1), 0⟩ : S73)] : List (S73))) := ⟨_, rfl⟩
      replace H : (if y661.length + t631.length < 8796093022208 then (some (t630, (y661 ++ t631), t635)) else (none)) = some (r1, r2, r3) := nh_ hy661 H
      have Ny661 := am hy661
      clear hy661
      obtain ⟨c132, H⟩ := ig_ H
      have LMc132 := am c132
      clear c132
      obtain ⟨y664, hy664⟩ : ∃ y_ : List (S73), y_ = (y661 ++ t631) := ⟨_, rfl⟩
      replace H : (some (t630, y664, t635)) = some (r1, r2, r3) := nh_ hy664 H
      have Ny664 := am hy664
      clear hy664
      simp only [Option.some.injEq, Prod.mk.injEq] at H
      obtain ⟨rfl, rfl, rfl⟩ := H
      go_enter Try.func138, Try.ntmps138
      go_wp2_with (first | ((with_reducible refine gate_dst (N := 3) rfl ?_); refine be_ 3 #[.int .i64 a1_0, .slice A1_1 l1_1.length c1_1] 34 ?_; intro gb628 hg w133 hbox hb; replace HB := bs HB hb; have BK628 := am hbox; have GW628 := am (gk_ hg HK); have GE628 := am (Nat.le_trans HW0.out (gk_ hg HK) : w0.heap.size ≤ gb628); replace HK := am (KeepBut.trans (kn HK) (KeepBut.of_below hb g none) (.inl rfl)); have NB0_628 := am ((by rw [hg]; exact Nat.ne_of_lt (IsS120.lt (show IsS120 w0 _ g s0_0 s0_1 from IsS120.now)) : g ≠ gb628)); have NB628_0 := am ((by rw [hg]; exact Nat.ne_of_gt (IsS120.lt (show IsS120 w0 _ g s0_0 s0_1 from IsS120.now)) : gb628 ≠ g)); replace HI0 := am (IsS120.below (IsS120.now) hb); clear hb hbox hg) | ((with_reducible refine gate_dst (N := 4) rfl ?_); refine be_ 4 #[.int .i64 0, .slice none 0 0] 34 ?_; intro gb629 hg w134 hbox hb; replace HB := bs HB hb; have BK629 := am hbox; have GW629 := am (gk_ hg HK); have GE629 := am (Nat.le_trans HW0.out (gk_ hg HK) : w0.heap.size ≤ gb629); replace HK := am (KeepBut.trans (kn HK) (KeepBut.of_below hb g none) (.inl rfl)); obtain ⟨NB628_629, NB629_628⟩ := nb_ hg BK628; replace BK628 := bb BK628 hb; have NB0_629 := am ((by rw [hg]; exact Nat.ne_of_lt (IsS120.lt (show IsS120 w0 _ g s0_0 s0_1 from IsS120.now)) : g ≠ gb629)); have NB629_0 := am ((by rw [hg]; exact Nat.ne_of_gt (IsS120.lt (show IsS120 w0 _ g s0_0 s0_1 from IsS120.now)) : gb629 ≠ g)); replace HI0 := am (IsS120.below (IsS120.now) hb); clear hb hbox hg; obtain ⟨hnb135, hnc135⟩ := n2 NB628_629 NB629_628; obtain ⟨hnb136, hnc136⟩ := n2 NB628_0 NB0_628; obtain ⟨hcz137_0, hcz137_1, hfz137_0, hfz137_1⟩ := c2 BK628) | ((with_reducible refine gate_callee (f := 102) rfl ?_); refine gl_ (some 7) Try.func102 #[.agg #[.int .i64 a1_0, .slice A1_1 l1_1.length c1_1]] ?_; (with_reducible refine (spec_l1Copy.calls a1_0 _ _ l1_1 t630 t631 _ ?side1 ?side2 A3.out).mono ?_); (case side1 => exact Kd.C_foot_now HR1_1.out (kn HK)); (case side2 => exact HC1_1.out); rintro e w138 ⟨v632, rfl, ho0, hb⟩; refine ⟨_, rfl, ?_⟩; have HO633 := am (Kd.R_lower ho0 (keep_size (w := w) (g := g) (row := none) (kn HK))); replace HI0 := am (IsS120.below (IsS120.now) hb); replace BK628 := bb BK628 hb; replace BK629 := bb BK629 hb; replace HK := am (KeepBut.trans (kn HK) (KeepBut.of_below hb g none) (.inl rfl)); replace HB := bs HB hb; (try clear hb); (try clear ho0); obtain ⟨hcz139_0, hcz139_1, hfz139_0, hfz139_1⟩ := c2 BK628; obtain ⟨Ao140, co140, eo140⟩ := Kd.R_slice HO633.out; subst eo140) | ((with_reducible refine gate_callee (f := 126) rfl ?_); refine gl_ (some 9) Try.func126 #[.pointer (some ⟨g, 0, none⟩), .int .i64 6] ?_; (with_reducible refine (spec_l6Rd_pick.calls k g s0_0 s0_1 6 t634 t635 w0 _ ?side1 ?side2 A4.out).mono ?_); (case side1 => exact IsS120.now); (case side2 => exact bn HB); rintro e w141 ⟨rfl, hi, hb, hk⟩; refine ⟨_, rfl, ?_⟩; replace BK629 := am (KeepBut.blk hk (bkn BK629) NB629_0.out (by simp)); replace HO633 := am (Kd.R_mono (Kd.R_keep (IsS120.apart (show IsS120 w0 _ g s0_0 s0_1 from IsS120.now) (by (with_reducible repeat (first | apply Kd.R_alloc | apply Kd.R_drewN | apply Kd.R_drew)); exact (Kd.R_mono (Kd.R_far (p := ⟨gb628, 1, none⟩) (Kd.R_far (p := ⟨gb628, 0, none⟩) (Kd.R_types HO633.out BK628.out (by decide)) (fun _ hk => hk.2) (.int .i64 t630)) (fun _ hk => hk.2) (.slice Ao140 t631.length co140)) (fun _ h_ => h_.1))) (by decide)) hk (fun _ h => h.2)) (fun _ h => h.1)); replace BK628 := am (KeepBut.blk hk (g' := gb628) (o := .cells #[.int .i64 t630, .slice Ao140 t631.length co140] 34 (0, 0)) (by (with_reducible repeat (first | refine blk_drewN ?_ _ | refine blk_drew ?_ | refine blk_alloc ?_ _)); refine blk_put (cs := #[.int .i64 t630, .slice A1_1 l1_1.length c1_1]) ?_ 1 _ rfl; (with_reducible repeat (first | refine blk_drewN ?_ _ | refine blk_drew ?_ | refine blk_alloc ?_ _)); refine blk_put (cs := #[.int .i64 a1_0, .slice A1_1 l1_1.length c1_1]) ?_ 0 _ rfl; (with_reducible repeat (first | refine blk_drewN ?_ _ | refine blk_drew ?_ | refine blk_alloc ?_ _)); exact BK628.out) NB628_0.out (by simp)); replace HK := am (KeepBut.trans (kn HK) hk (.inl rfl)); replace HB := am hb; replace HI0 := am hi; (try clear hb); (try clear hk); (try clear hi)) | ((with_reducible refine gate_dst (N := 11) rfl ?_); refine Kd.R_lit k73 _ 73 ?hg (N := 11) ?hd (xs := ([(⟨(-1), 0⟩ : S73)] : List (S73))) (inner := [.int .i64 (-1), .int .i64 0]) (ok := fun _ => True) (okp := fun _ => True) ?hr ?hp (fun _ hk => hk) trivial (Below.refl _ _) (Nat.le_refl _) (by simp) ?_; (case hd => rfl); (case hg => rfl); (case hr => first | (go_simp; done) | (go_simp; rfl)); (case hp => exact (Reps.c2 (show Kd.M k73 _ _ _ (⟨(-1), 0⟩ : S73) [.int .i64 (-1), .int .i64 0] from (k73_mkM _ _ _ (⟨(-1), 0⟩ : S73) )) (Reps.none _ _))); intro v662 w142 ho143 hb hg_ hnew_; clear hg_ hnew_; (first | rw [← Ny661.out] at ho143 | (simp only [Int.reduceToNat] at ho143; rw [← Ny661.out] at ho143)); have HO663 := am (Kd.R_lower (Kd.R_new' ho143 (Kd.R_lt (onR HO633))) (keep_size (w := w) (g := g) (row := none) (kn HK))); replace HO633 := am (Kd.R_elder' (onR HO633) (Kd.R_base ho143) hb); replace HI0 := am (IsS120.below (IsS120.now) hb); replace BK628 := bb BK628 hb; replace BK629 := bb BK629 hb; replace HK := am (KeepBut.trans (kn HK) (KeepBut.of_below hb g none) (.inl rfl)); replace HB := bs HB hb; clear hb ho143; obtain ⟨hcz144_0, hcz144_1, hfz144_0, hfz144_1⟩ := c2 BK628) | ((with_reducible refine gate_builtin (b := .append) (xs := #[.tmp 11, .tmp 13]) rfl ?_); at_builtin; refine Kd.R_append_rows k73 w.heap.size rfl (.tmp 11) (.tmp 13) 32 73 (.agg #[(.int .i64 0), (.int .i64 0)]) 16 rfl Try.underlying32 info73 rfl (by decide) (by omega) v662 y661 t631 _ _ _ (fun k_ => some k_ ≠ (.slice Ao140 t631.length co140 : Value).ownBlock) (fun _ => False) rfl rfl ?aO ?aR (fun _ _ h => h) (fun _ h => h.elim) ?aF (Below.refl _ _) ?aS ?aL ?_; (case aR => repeat (first | exact (Kd.R_reads' HO633.out).2.2 | (with_reducible refine Kd.C_alloc ?_ _) | (with_reducible refine Kd.C_drewN ?_ _) | (with_reducible refine Kd.C_drew ?_))); (case aF => exact (fun k_ hk => Kd.fresh' (Kd.R_lt (onR HO633)) k_ hk)); (case aO => exact (by (with_reducible repeat (first | apply Kd.R_alloc | apply Kd.R_drewN | apply Kd.R_drew)); exact Kd.R_mono HO663.out (fun _ hk => hk.2))); (case aS => exact (keep_size (w := w) (g := g) (row := none) (kn HK))); (case aL => have := LMc132.out; omega); intro v665 w145 ho hb hg hat; rw [← Ny664.out] at ho; replace HI0 := am (IsS120.grown (IsS120.now) hg (IsS120.own_ne HI0.out HO663.out (by decide))); replace BK628 := am (blk_grown (bkn BK628) hg (Kd.R_ne HO663.out BK628.out (by decide))); replace BK629 := am (blk_grown (bkn BK629) hg (Kd.R_ne HO663.out BK629.out (by decide))); replace HO633 := am (Kd.R_after (ok := (fun _ => True)) (onR HO633) hg hat); replace HB := am (below_weaken (bn HB) HL.out hb); replace HK := am (KeepBut.trans (kn HK) (KeepBut.of_grown hg g) (Kd.R_base2 HO663.out)); have HO666 := am ho; clear HO663; clear ho hb hg hat; obtain ⟨Ao146, co146, eo146⟩ := Kd.R_slice HO666.out; subst eo146; obtain ⟨hcz147_0, hcz147_1, hfz147_0, hfz147_1⟩ := c2 BK628; obtain ⟨hnb148, hnc148⟩ := n2 NB629_0 NB0_629; obtain ⟨hcz149_0, hcz149_1, hfz149_0, hfz149_1⟩ := c2 BK629))
      refine bodyPost_ret (results_cell_row rfl _ _ gb629 34 #[.int .i64 t630, .slice Ao146 y664.length co146] (0, 0) _ rfl (by (with_reducible repeat (first | refine blk_drewN ?_ _ | refine blk_drew ?_ | refine blk_alloc ?_ _)); refine blk_put (cs := #[.int .i64 t630, .slice none 0 0]) ?_ 1 _ rfl; (with_reducible repeat (first | refine blk_drewN ?_ _ | refine blk_drew ?_ | refine blk_alloc ?_ _)); refine blk_put (cs := #[.int .i64 0, .slice none 0 0]) ?_ 0 _ rfl; (with_reducible repeat (first | refine blk_drewN ?_ _ | refine blk_drew ?_ | refine blk_alloc ?_ _)); refine blk_far ?_ NB629_628.out _; (with_reducible repeat (first | refine blk_drewN ?_ _ | refine blk_drew ?_ | refine blk_alloc ?_ _)); exact BK629.out) Try.underlying34 rfl (by kernel_rfl)) rfl ?_
      exact ⟨_, by first | rfl | (simp [errW_none, errW_some] <;> rfl) | (simp [*, errW_none, errW_some] <;> rfl), by (with_reducible repeat (first | apply Kd.R_alloc | apply Kd.R_drewN | apply Kd.R_drew)); exact Kd.R_mono (Kd.R_far (p := ⟨gb629, 1, none⟩) (Kd.R_far (p := ⟨gb629, 0, none⟩) (Kd.R_far (p := ⟨gb628, 1, none⟩) (Kd.R_types (Kd.R_types HO666.out BK628.out (by decide)) BK629.out (by decide)) (fun _ hk => hk.1.2) (.slice Ao146 y664.length co146)) (fun _ hk => hk.2) (.int .i64 t630)) (fun _ hk => hk.2) (.slice Ao146 y664.length co146)) (fun _ hk => trivial), IsS120.now, bn HB, kn HK⟩

end Go.Proofs.Ytdlnnjgjfngccaa.F
