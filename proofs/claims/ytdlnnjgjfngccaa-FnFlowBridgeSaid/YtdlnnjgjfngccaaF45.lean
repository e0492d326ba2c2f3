-- Written by oprint.py (wip/tools) over the kit's print program, for this seat.
import Derived.Test.YtdlnnjgjfngccaaF0
import Derived.Test.YtdlnnjgjfngccaaF41
import Derived.Test.YtdlnnjgjfngccaaF43
import Derived.Test.YtdlnnjgjfngccaaF44
namespace Go.Proofs.Ytdlnnjgjfngccaa.F
open Go.RowKit Go.Proofs.YtdlnnjgjfngccaaW.PrintWords Go.Proofs.YtdlnnjgjfngccaaW.PrintLast Go.Proofs.YtdlnnjgjfngccaaW.PrintMore
attribute [local go_sem] max2_int min2_int max_two min_two max_three min_three max_four min_four   -- for this text's walks alone
set_option linter.unusedVariables false
set_option linter.unusedSimpArgs false

/-! ### spec_l71Any: function 110 -/
def spec_l71Any.f (k : Nat) (s0_0 : List Int) (s0_1 : Int) : Option (Int × (List (S73)) × Int) := (spec_l71Net.f k s0_0 s0_1).bind fun bt668 => ((spec_l6Rd_pick.f k s0_0 bt668.2.2 12).bind fun bt674 => (if bt674.1 = 0 then ((spec_l71Spoil.f k s0_0 bt674.2 bt668.1 bt668.2.1).bind fun bt676 => (some (bt676.1, bt676.2.1, bt676.2.2))) else (some (bt668.1, bt668.2.1, bt674.2))))
theorem spec_l71Any.mono : ∀ a0 a1 k, LeO (spec_l71Any.f k a0 a1) (spec_l71Any.f (k + 1) a0 a1) := by
 intro a0 a1 k
 unfold spec_l71Any.f
 have m0_ := @spec_l6Rd_pick.mono
 have m1_ := @spec_l71Net.mono
 have m2_ := @spec_l71Spoil.mono
 exact mo_
set_option maxHeartbeats 8000000 in
set_option maxRecDepth 100000 in
theorem spec_l71Any.calls (k : Nat) (g : Nat) (s0_0 : List Int) (s0_1 : Int) (r1 : Int) (r2 : List (S73)) (r3 : Int) (w0 w : World) (hI : IsS120 w0 w g s0_0 s0_1) (hB : Below w0.heap.size w0 w) (h : spec_l71Any.f k s0_0 s0_1 = some (r1, r2, r3)) :
  Calls Try.prog 110 #[.pointer (some ⟨g, 0, none⟩)] w fun e w' => ∃ v1_ : Value, e = .returned (.agg #[.int .i64 r1, v1_]) ∧ Kd.R k73 73 w' w.heap.size (fun _ => True) v1_ r2 ∧ IsS120 w0 w' g s0_0 r3 ∧ Below w0.heap.size w0 w' ∧ KeepBut w w' g none := by
 have hu34 := Try.underlying34
 have GEs_ := am (IsS120.ge hI)
 have HI0 := am hI
 have HK := am (KeepBut.refl w g none)
 have HL := am hB.size
 clear hI
 have HW0 := am hB.size
 have HB := am hB
 clear hB
 have H : ((spec_l71Net.f k s0_0 s0_1).bind fun bt668 => ((spec_l6Rd_pick.f k s0_0 bt668.2.2 12).bind fun bt674 => (if bt674.1 = 0 then ((spec_l71Spoil.f k s0_0 bt674.2 bt668.1 bt668.2.1).bind fun bt676 => (some (bt676.1, bt676.2.1, bt676.2.2))) else (some (bt668.1, bt668.2.1, bt674.2))))) = some (r1, r2, r3) := h
 clear h
 replace H := Option.bind_eq_some_iff.mp H
 obtain ⟨⟨t668, t669, t672⟩, A20, H⟩ := H
 (try dsimp only at H)
 have A2 := am A20
 clear A20
 replace H := Option.bind_eq_some_iff.mp H
 obtain ⟨⟨t674, t675⟩, A30, H⟩ := H
 (try dsimp only at H)
 have A3 := am A30
 clear A30
 by_cases c4 : t674 = 0
 ·rw [if_pos c4] at H
  have c4b0 : (t674 == 0) = true := beq_iff_eq.mpr c4
  have c4b1 : (t674 != 0) = false := bne_eq_false_iff_eq.mpr c4
  clear c4
  replace H := Option.bind_eq_some_iff.mp H
  obtain ⟨⟨t676, t677, t680⟩, A50, H⟩ := H
  (try dsimp only at H)
  have A5 := am A50
  clear A50
  simp only [Option.some.injEq, Prod.mk.injEq] at H
  obtain ⟨rfl, rfl, rfl⟩ := H
  go_enter Try.func110, Try.ntmps110
  go_wp2_with (first | ((with_reducible refine gate_dst (N := 2) rfl ?_); refine be_ 2 #[.int .i64 0, .slice none 0 0] 34 ?_; intro gb667 hg w6 hbox hb; replace HB := bs HB hb; have BK667 := am hbox; have GW667 := am (gk_ hg HK); have GE667 := am (Nat.le_trans HW0.out (gk_ hg HK) : w0.heap.size ≤ gb667); replace HK := am (KeepBut.trans (kn HK) (KeepBut.of_below hb g none) (.inl rfl)); have NB0_667 := am ((by rw [hg]; exact Nat.ne_of_lt (IsS120.lt (show IsS120 w0 _ g s0_0 s0_1 from IsS120.now)) : g ≠ gb667)); have NB667_0 := am ((by rw [hg]; exact Nat.ne_of_gt (IsS120.lt (show IsS120 w0 _ g s0_0 s0_1 from IsS120.now)) : gb667 ≠ g)); replace HI0 := am (IsS120.below (IsS120.now) hb); clear hb hbox hg) | ((with_reducible refine gate_callee (f := 137) rfl ?_); refine gl_ (some 5) Try.func137 #[.pointer (some ⟨g, 0, none⟩)] ?_; (with_reducible refine (spec_l71Net.calls k g s0_0 s0_1 t668 t669 t672 w0 _ ?side1 ?side2 A2.out).mono ?_); (case side1 => exact IsS120.now); (case side2 => exact bn HB); rintro e w7 ⟨v670, rfl, ho0, hi, hb, hk⟩; refine ⟨_, rfl, ?_⟩; replace BK667 := am (KeepBut.blk hk (bkn BK667) NB667_0.out (by simp)); have HO671 := am (Kd.R_lower ho0 (keep_size (w := w) (g := g) (row := none) (kn HK))); replace HK := am (KeepBut.trans (kn HK) hk (.inl rfl)); replace HB := am hb; replace HI0 := am hi; (try clear hb); (try clear hk); (try clear hi); (try clear ho0)) | ((with_reducible refine gate_dst (N := 3) rfl ?_); refine be_ 3 #[.int .i64 0, .slice none 0 0] 34 ?_; intro gb673 hg w8 hbox hb; replace HO671 := am (Kd.R_below (onR HO671) hb); replace HB := bs HB hb; have BK673 := am hbox; have GW673 := am (gk_ hg HK); have GE673 := am (Nat.le_trans HW0.out (gk_ hg HK) : w0.heap.size ≤ gb673); replace HK := am (KeepBut.trans (kn HK) (KeepBut.of_below hb g none) (.inl rfl)); obtain ⟨NB667_673, NB673_667⟩ := nb_ hg BK667; replace BK667 := bb BK667 hb; have NB0_673 := am ((by rw [hg]; exact Nat.ne_of_lt (IsS120.lt (show IsS120 w0 _ g s0_0 t672 from IsS120.now)) : g ≠ gb673)); have NB673_0 := am ((by rw [hg]; exact Nat.ne_of_gt (IsS120.lt (show IsS120 w0 _ g s0_0 t672 from IsS120.now)) : gb673 ≠ g)); replace HI0 := am (IsS120.below (IsS120.now) hb); clear hb hbox hg; obtain ⟨hnb9, hnc9⟩ := n2 NB673_667 NB667_673; obtain ⟨hnb10, hnc10⟩ := n2 NB673_0 NB0_673; obtain ⟨hcz11_0, hcz11_1, hfz11_0, hfz11_1⟩ := c2 BK673; obtain ⟨Ao12, co12, eo12⟩ := Kd.R_slice HO671.out; subst eo12) | ((with_reducible refine gate_callee (f := 126) rfl ?_); refine gl_ (some 7) Try.func126 #[.pointer (some ⟨g, 0, none⟩), .int .i64 12] ?_; (with_reducible refine (spec_l6Rd_pick.calls k g s0_0 t672 12 t674 t675 w0 _ ?side1 ?side2 A3.out).mono ?_); (case side1 => exact IsS120.now); (case side2 => exact bn HB); rintro e w13 ⟨rfl, hi, hb, hk⟩; refine ⟨_, rfl, ?_⟩; replace BK667 := am (KeepBut.blk hk (bkn BK667) NB667_0.out (by simp)); replace HO671 := am (Kd.R_mono (Kd.R_keep (IsS120.apart (show IsS120 w0 _ g s0_0 t672 from IsS120.now) (by (with_reducible repeat (first | apply Kd.R_alloc | apply Kd.R_drewN | apply Kd.R_drew)); exact (Kd.R_mono (Kd.R_far (p := ⟨gb673, 1, none⟩) (Kd.R_far (p := ⟨gb673, 0, none⟩) (Kd.R_types HO671.out BK673.out (by decide)) (fun _ hk => hk.2) (.int .i64 t668)) (fun _ hk => hk.2) (.slice Ao12 t669.length co12)) (fun _ h_ => h_.1))) (by decide)) hk (fun _ h => h.2)) (fun _ h => h.1)); replace BK673 := am (KeepBut.blk hk (g' := gb673) (o := .cells #[.int .i64 t668, .slice Ao12 t669.length co12] 34 (0, 0)) (by (with_reducible repeat (first | refine blk_drewN ?_ _ | refine blk_drew ?_ | refine blk_alloc ?_ _)); refine blk_put (cs := #[.int .i64 t668, .slice none 0 0]) ?_ 1 _ rfl; (with_reducible repeat (first | refine blk_drewN ?_ _ | refine blk_drew ?_ | refine blk_alloc ?_ _)); refine blk_put (cs := #[.int .i64 0, .slice none 0 0]) ?_ 0 _ rfl; (with_reducible repeat (first | refine blk_drewN ?_ _ | refine blk_drew ?_ | refine blk_alloc ?_ _)); exact BK673.out) NB673_0.out (by simp)); replace HK := am (KeepBut.trans (kn HK) hk (.inl rfl)); replace HB := am hb; replace HI0 := am hi; (try clear hb); (try clear hk); (try clear hi); obtain ⟨hcz14_0, hcz14_1, hfz14_0, hfz14_1⟩ := c2 BK673) | ((with_reducible refine gate_callee (f := 138) rfl ?_); refine gl_ (some 11) Try.func138 #[.pointer (some ⟨g, 0, none⟩), .agg #[.int .i64 t668, .slice Ao12 t669.length co12]] ?_; (with_reducible refine (spec_l71Spoil.calls k g s0_0 t675 t668 _ _ t669 t676 t677 t680 w0 _ ?side1 ?side2 ?side3 ?side4 A5.out).mono ?_); (case side1 => exact IsS120.now); (case side2 => exact bn HB); (case side3 => exact Kd.C_foot_own (IsS120.apart (show IsS120 w0 _ g s0_0 t675 from IsS120.now) (onR HO671) (by decide)) (fun _ h_ => h_.2)); (case side4 => exact (Kd.R_reads' HO671.out).2.1); rintro e w15 ⟨v678, rfl, ho0, hi, hb, hk⟩; refine ⟨_, rfl, ?_⟩; replace BK667 := am (KeepBut.blk hk (bkn BK667) NB667_0.out (by simp)); replace BK673 := am (KeepBut.blk hk (bkn BK673) NB673_0.out (by simp)); have HO679 := am (Kd.R_lower (Kd.R_new' ho0 (Kd.R_lt (onR HO671))) (keep_size (w := w) (g := g) (row := none) (kn HK))); replace HO671 := am (Kd.R_mono (Kd.R_told (Kd.R_oldK (IsS120.apart (show IsS120 w0 _ g s0_0 t675 from IsS120.now) (onR HO671) (by decide)) hk) (Kd.R_base ho0)) (fun _ h_ => h_.1)); replace HK := am (KeepBut.trans (kn HK) hk (.inl rfl)); replace HB := am hb; replace HI0 := am hi; (try clear hb); (try clear hk); (try clear hi); (try clear ho0); obtain ⟨hnb16, hnc16⟩ := n2 NB667_0 NB0_667; obtain ⟨hcz17_0, hcz17_1, hfz17_0, hfz17_1⟩ := c2 BK667; obtain ⟨Ao18, co18, eo18⟩ := Kd.R_slice HO679.out; subst eo18))
  refine bodyPost_ret (results_cell_row rfl _ _ gb667 34 #[.int .i64 t676, .slice Ao18 t677.length co18] (0, 0) _ rfl (by (with_reducible repeat (first | refine blk_drewN ?_ _ | refine blk_drew ?_ | refine blk_alloc ?_ _)); refine blk_put (cs := #[.int .i64 t676, .slice none 0 0]) ?_ 1 _ rfl; (with_reducible repeat (first | refine blk_drewN ?_ _ | refine blk_drew ?_ | refine blk_alloc ?_ _)); refine blk_put (cs := #[.int .i64 0, .slice none 0 0]) ?_ 0 _ rfl; (with_reducible repeat (first | refine blk_drewN ?_ _ | refine blk_drew ?_ | refine blk_alloc ?_ _)); exact BK667.out) Try.underlying34 rfl (by kernel_rfl)) rfl ?_
  exact ⟨_, by first | rfl | (simp [errW_none, errW_some] <;> rfl) | (simp [*, errW_none, errW_some] <;> rfl), by (with_reducible repeat (first | apply Kd.R_alloc | apply Kd.R_drewN | apply Kd.R_drew)); exact Kd.R_mono (Kd.R_far (p := ⟨gb667, 1, none⟩) (Kd.R_far (p := ⟨gb667, 0, none⟩) (Kd.R_types HO679.out BK667.out (by decide)) (fun _ hk => hk.2) (.int .i64 t676)) (fun _ hk => hk.2) (.slice Ao18 t677.length co18)) (fun _ hk => trivial), IsS120.now, bn HB, kn HK⟩
 ·rw [if_neg c4] at H
  have c4b0 : (t674 == 0) = false := beq_eq_false_iff_ne.mpr c4
  have c4b1 : (t674 != 0) = true := bne_iff_ne.mpr c4
  simp only [Option.some.injEq, Prod.mk.injEq] at H
  obtain ⟨rfl, rfl, rfl⟩ := H
  go_enter Try.func110, Try.ntmps110
  go_wp2_with (first | ((with_reducible refine gate_dst (N := 2) rfl ?_); refine be_ 2 #[.int .i64 0, .slice none 0 0] 34 ?_; intro gb667 hg w19 hbox hb; replace HB := bs HB hb; have BK667 := am hbox; have GW667 := am (gk_ hg HK); have GE667 := am (Nat.le_trans HW0.out (gk_ hg HK) : w0.heap.size ≤ gb667); replace HK := am (KeepBut.trans (kn HK) (KeepBut.of_below hb g none) (.inl rfl)); have NB0_667 := am ((by rw [hg]; exact Nat.ne_of_lt (IsS120.lt (show IsS120 w0 _ g s0_0 s0_1 from IsS120.now)) : g ≠ gb667)); have NB667_0 := am ((by rw [hg]; exact Nat.ne_of_gt (IsS120.lt (show IsS120 w0 _ g s0_0 s0_1 from IsS120.now)) : gb667 ≠ g)); replace HI0 := am (IsS120.below (IsS120.now) hb); clear hb hbox hg) | ((with_reducible refine gate_callee (f := 137) rfl ?_); refine gl_ (some 5) Try.func137 #[.pointer (some ⟨g, 0, none⟩)] ?_; (with_reducible refine (spec_l71Net.calls k g s0_0 s0_1 t668 t669 t672 w0 _ ?side1 ?side2 A2.out).mono ?_); (case side1 => exact IsS120.now); (case side2 => exact bn HB); rintro e w20 ⟨v670, rfl, ho0, hi, hb, hk⟩; refine ⟨_, rfl, ?_⟩; replace BK667 := am (KeepBut.blk hk (bkn BK667) NB667_0.out (by simp)); have HO671 := am (Kd.R_lower ho0 (keep_size (w := w) (g := g) (row := none) (kn HK))); replace HK := am (KeepBut.trans (kn HK) hk (.inl rfl)); replace HB := am hb; replace HI0 := am hi; (try clear hb); (try clear hk); (try clear hi); (try clear ho0)) | ((with_reducible refine gate_dst (N := 3) rfl ?_); refine be_ 3 #[.int .i64 0, .slice none 0 0] 34 ?_; intro gb673 hg w21 hbox hb; replace HO671 := am (Kd.R_below (onR HO671) hb); replace HB := bs HB hb; have BK673 := am hbox; have GW673 := am (gk_ hg HK); have GE673 := am (Nat.le_trans HW0.out (gk_ hg HK) : w0.heap.size ≤ gb673); replace HK := am (KeepBut.trans (kn HK) (KeepBut.of_below hb g none) (.inl rfl)); obtain ⟨NB667_673, NB673_667⟩ := nb_ hg BK667; replace BK667 := bb BK667 hb; have NB0_673 := am ((by rw [hg]; exact Nat.ne_of_lt (IsS120.lt (show IsS120 w0 _ g s0_0 t672 from IsS120.now)) : g ≠ gb673)); have NB673_0 := am ((by rw [hg]; exact Nat.ne_of_gt (IsS120.lt (show IsS120 w0 _ g s0_0 t672 from IsS120.now)) : gb673 ≠ g)); replace HI0 := am (IsS120.below (IsS120.now) hb); clear hb hbox hg; obtain ⟨hnb22, hnc22⟩ := n2 NB673_667 NB667_673; obtain ⟨hnb23, hnc23⟩ := n2 NB673_0 NB0_673; obtain ⟨hcz24_0, hcz24_1, hfz24_0, hfz24_1⟩ := c2 BK673; obtain ⟨Ao25, co25, eo25⟩ := Kd.R_slice HO671.out; subst eo25) | ((with_reducible refine gate_callee (f := 126) rfl ?_); refine gl_ (some 7) Try.func126 #[.pointer (some ⟨g, 0, none⟩), .int .i64 12] ?_; (with_reducible refine (spec_l6Rd_pick.calls k g s0_0 t672 12 t674 t675 w0 _ ?side1 ?side2 A3.out).mono ?_); (case side1 => exact IsS120.now); (case side2 => exact bn HB); rintro e w26 ⟨rfl, hi, hb, hk⟩; refine ⟨_, rfl, ?_⟩; replace BK667 := am (KeepBut.blk hk (bkn BK667) NB667_0.out (by simp)); replace HO671 := am (Kd.R_mono (Kd.R_keep (IsS120.apart (show IsS120 w0 _ g s0_0 t672 from IsS120.now) (by (with_reducible repeat (first | apply Kd.R_alloc | apply Kd.R_drewN | apply Kd.R_drew)); exact (Kd.R_mono (Kd.R_far (p := ⟨gb673, 1, none⟩) (Kd.R_far (p := ⟨gb673, 0, none⟩) (Kd.R_types HO671.out BK673.out (by decide)) (fun _ hk => hk.2) (.int .i64 t668)) (fun _ hk => hk.2) (.slice Ao25 t669.length co25)) (fun _ h_ => h_.1))) (by decide)) hk (fun _ h => h.2)) (fun _ h => h.1)); replace BK673 := am (KeepBut.blk hk (g' := gb673) (o := .cells #[.int .i64 t668, .slice Ao25 t669.length co25] 34 (0, 0)) (by (with_reducible repeat (first | refine blk_drewN ?_ _ | refine blk_drew ?_ | refine blk_alloc ?_ _)); refine blk_put (cs := #[.int .i64 t668, .slice none 0 0]) ?_ 1 _ rfl; (with_reducible repeat (first | refine blk_drewN ?_ _ | refine blk_drew ?_ | refine blk_alloc ?_ _)); refine blk_put (cs := #[.int .i64 0, .slice none 0 0]) ?_ 0 _ rfl; (with_reducible repeat (first | refine blk_drewN ?_ _ | refine blk_drew ?_ | refine blk_alloc ?_ _)); exact BK673.out) NB673_0.out (by simp)); replace HK := am (KeepBut.trans (kn HK) hk (.inl rfl)); replace HB := am hb; replace HI0 := am hi; (try clear hb); (try clear hk); (try clear hi); obtain ⟨hcz27_0, hcz27_1, hfz27_0, hfz27_1⟩ := c2 BK673; obtain ⟨hnb28, hnc28⟩ := n2 NB667_0 NB0_667; obtain ⟨hcz29_0, hcz29_1, hfz29_0, hfz29_1⟩ := c2 BK667))
  refine bodyPost_ret (results_cell_row rfl _ _ gb667 34 #[.int .i64 t668, .slice Ao25 t669.length co25] (0, 0) _ rfl (by (with_reducible repeat (first | refine blk_drewN ?_ _ | refine blk_drew ?_ | refine blk_alloc ?_ _)); refine blk_put (cs := #[.int .i64 t668, .slice none 0 0]) ?_ 1 _ rfl; (with_reducible repeat (first | refine blk_drewN ?_ _ | refine blk_drew ?_ | refine blk_alloc ?_ _)); refine blk_put (cs := #[.int .i64 0, .slice none 0 0]) ?_ 0 _ rfl; (with_reducible repeat (first | refine blk_drewN ?_ _ | refine blk_drew ?_ | refine blk_alloc ?_ _)); exact BK667.out) Try.underlying34 rfl (by kernel_rfl)) rfl ?_
  exact ⟨_, by first | rfl | (simp [errW_none, errW_some] <;> rfl) | (simp [*, errW_none, errW_some] <;> rfl), by (with_reducible repeat (first | apply Kd.R_alloc | apply Kd.R_drewN | apply Kd.R_drew)); exact Kd.R_mono (Kd.R_far (p := ⟨gb667, 1, none⟩) (Kd.R_far (p := ⟨gb667, 0, none⟩) (Kd.R_types HO671.out BK667.out (by decide)) (fun _ hk => hk.2) (.int .i64 t668)) (fun _ hk => hk.2) (.slice Ao25 t669.length co25)) (fun _ hk => trivial), IsS120.now, bn HB, kn HK⟩

/-! ### spec_l6Open: function 109 -/
def spec_l6Open.f (l0 : List Int) : Option (List Int × Int) := if (l0.length : Int) > 2000 then (if 2000 ≤ (l0.length : Int) then (some (l0.take 2000, 0)) else (none)) else (some (l0, 0))
set_option maxHeartbeats 8000000 in
set_option maxRecDepth 100000 in
theorem spec_l6Open.calls (A0 : Option Addr) (c0 : Nat) (l0 : List Int) (r1 : List Int) (r2 : Int) (w0 w : World) (hB : Below w0.heap.size w0 w) (hr0 : Kd.C (Kd.int .u8) w0 A0 l0.length l0) (hc0 : l0.length ≤ c0) (h : spec_l6Open.f l0 = some (r1, r2)) :
  Calls Try.prog 109 #[.slice A0 l0.length c0] w fun e w' => ∃ g_ : Nat, e = .returned (.pointer (some ⟨g_, 0, none⟩)) ∧ IsS120 w0 w' g_ r1 r2 ∧ Below w0.heap.size w0 w' ∧ Below w.heap.size w w' := by
 have hu120 := Try.underlying120
 have HR0 := am hr0
 have HC0 := am hc0
 clear hr0 hc0
 have HBW := am (Below.refl w.heap.size w)
 have HW0 := am hB.size
 have HB := am hB
 clear hB
 have H : (if (l0.length : Int) > 2000 then (if 2000 ≤ (l0.length : Int) then (some (l0.take 2000, 0)) else (none)) else (some (l0, 0))) = some (r1, r2) := h
 clear h
 by_cases c2 : (l0.length : Int) > 2000
 ·rw [if_pos c2] at H
  have c2b0 := decide_eq_true c2
  have c2b1 : decide (2000 < l0.length) = true := decide_eq_true (by omega)
  clear c2
  obtain ⟨c3, H⟩ := ig_ H
  have c3b0 := eq_true c3
  have c3b1 := decide_eq_true c3
  clear c3
  simp only [Option.some.injEq, Prod.mk.injEq] at H
  obtain ⟨rfl, rfl⟩ := H
  obtain ⟨i04, hi04, _, hsz4, _⟩ := info_parts info5
  obtain ⟨hcut4, hA4, hC4⟩ := print_take_of (P := Try.prog) (Value.int .u8) 0 52 5 .i64 Try.underlying52 hi04 hsz4 A0 c0 l0 2000 (by omega) (oa) HC0.out
  have HR705 := am (Kd.C_of_reads (h1 := fun _ => rfl) (hA4 _ (Kd.reads_of_C HR0.out)))
  have HC705 := am hC4
  clear hA4 hC4 hi04 hsz4
  go_enter Try.func109, Try.ntmps109
  go_wp2_with (first | ((with_reducible refine gate_dst (N := 10) rfl ?_); refine be_ 10 #[.slice A0 (l0.take 2000).length c0, .int .i64 0] 120 ?_; intro gb706 hg w5 hbox hb; replace HB := bs HB hb; have BK706 := am hbox; have GW706 := am ((by rw [hg]; exact (below_size (by repeat (first | (with_reducible first | exact HBW.out | apply below_alloc | apply pw_below_drewN | apply below_drew1) | exact HBW.out))) : w.heap.size ≤ gb706)); have GE706 := am ((Nat.le_trans HW0.out (by rw [hg]; exact (below_size (by repeat (first | (with_reducible first | exact HBW.out | apply below_alloc | apply pw_below_drewN | apply below_drew1) | exact HBW.out))) : w.heap.size ≤ gb706) : w0.heap.size ≤ gb706)); replace HBW := am (below_step HBW.out hb); clear hb hbox hg))
  go_ret
  exact ⟨_, rfl, (show IsS120 w0 _ gb706 (l0.take 2000) 0 from ⟨_, _, bkn BK706, GE706.out, HR705.out⟩), bn HB, by repeat (first | (with_reducible first | exact HBW.out | apply below_alloc | apply pw_below_drewN | apply below_drew1 | refine below_set ?_ GW706.out) | exact HBW.out)⟩
 ·rw [if_neg c2] at H
  have c2b0 := decide_eq_false c2
  have c2b1 : decide (2000 < l0.length) = false := decide_eq_false (by omega)
  clear c2
  simp only [Option.some.injEq, Prod.mk.injEq] at H
  obtain ⟨rfl, rfl⟩ := H
  go_enter Try.func109, Try.ntmps109
  go_wp2_with (first | ((with_reducible refine gate_dst (N := 10) rfl ?_); refine be_ 10 #[.slice A0 l0.length c0, .int .i64 0] 120 ?_; intro gb707 hg w6 hbox hb; replace HB := bs HB hb; have BK707 := am hbox; have GW707 := am ((by rw [hg]; exact (below_size (by repeat (first | (with_reducible first | exact HBW.out | apply below_alloc | apply pw_below_drewN | apply below_drew1) | exact HBW.out))) : w.heap.size ≤ gb707)); have GE707 := am ((Nat.le_trans HW0.out (by rw [hg]; exact (below_size (by repeat (first | (with_reducible first | exact HBW.out | apply below_alloc | apply pw_below_drewN | apply below_drew1) | exact HBW.out))) : w.heap.size ≤ gb707) : w0.heap.size ≤ gb707)); replace HBW := am (below_step HBW.out hb); clear hb hbox hg))
  go_ret
  exact ⟨_, rfl, (show IsS120 w0 _ gb707 l0 0 from ⟨_, _, bkn BK707, GE707.out, HR0.out⟩), bn HB, by repeat (first | (with_reducible first | exact HBW.out | apply below_alloc | apply pw_below_drewN | apply below_drew1 | refine below_set ?_ GW707.out) | exact HBW.out)⟩

end Go.Proofs.Ytdlnnjgjfngccaa.F
