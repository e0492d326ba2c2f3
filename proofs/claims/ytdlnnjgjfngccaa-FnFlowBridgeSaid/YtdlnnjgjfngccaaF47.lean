-- Written by oprint.py (wip/tools) over the kit's print program, for this seat.
import Derived.Test.YtdlnnjgjfngccaaF0
import Derived.Test.YtdlnnjgjfngccaaF41
import Derived.Test.YtdlnnjgjfngccaaF45
import Derived.Test.YtdlnnjgjfngccaaF46
namespace Go.Proofs.Ytdlnnjgjfngccaa.F
open Go.RowKit Go.Proofs.YtdlnnjgjfngccaaW.PrintWords Go.Proofs.YtdlnnjgjfngccaaW.PrintLast Go.Proofs.YtdlnnjgjfngccaaW.PrintMore
attribute [local go_sem] max2_int min2_int max_two min_two max_three min_three max_four min_four   -- for this text's walks alone
set_option linter.unusedVariables false
set_option linter.unusedSimpArgs false

/-! ### spec_DrawFlowCount: function 48 -/
def spec_DrawFlowCount.f (k : Nat) (l0 : List Int) : Option (Int × (List (S73)) × Int × Int) := (spec_l6Open.f l0).bind fun bt709 => ((spec_l71Pair.f k bt709.1 bt709.2).bind fun bt712 => (some (bt712.1, bt712.2.1, bt712.2.2.1, bt712.2.2.2.1)))
theorem spec_DrawFlowCount.mono : ∀ a0 k, LeO (spec_DrawFlowCount.f k a0) (spec_DrawFlowCount.f (k + 1) a0) := by
 intro a0 k
 unfold spec_DrawFlowCount.f
 have m0_ := @spec_l71Pair.mono
 exact mo_
set_option maxHeartbeats 8000000 in
set_option maxRecDepth 100000 in
theorem spec_DrawFlowCount.calls (k : Nat) (A0 : Option Addr) (c0 : Nat) (l0 : List Int) (r1 : Int) (r2 : List (S73)) (r3 : Int) (r4 : Int) (w : World) (hr0 : Kd.C (Kd.int .u8) w A0 l0.length l0) (hc0 : l0.length ≤ c0) (h : spec_DrawFlowCount.f k l0 = some (r1, r2, r3, r4)) :
  Calls Try.prog 48 #[.slice A0 l0.length c0] w fun e w' => ∃ v1_ : Value, e = .returned (.tuple #[.agg #[.int .i64 r1, v1_], .int .i64 r3, .int .i64 r4]) ∧ Kd.R k73 73 w' w.heap.size (fun _ => True) v1_ r2 ∧ Below w.heap.size w w' := by
 have hu34 := Try.underlying34
 have HR0 := am hr0
 have HC0 := am hc0
 clear hr0 hc0
 have HB := am (Below.refl w.heap.size w)
 have H : ((spec_l6Open.f l0).bind fun bt709 => ((spec_l71Pair.f k bt709.1 bt709.2).bind fun bt712 => (some (bt712.1, bt712.2.1, bt712.2.2.1, bt712.2.2.2.1)))) = some (r1, r2, r3, r4) := h
 clear h
 replace H := Option.bind_eq_some_iff.mp H
 obtain ⟨⟨t709, t710⟩, A20, H⟩ := H
 (try dsimp only at H)
 have A2 := am A20
 clear A20
 replace H := Option.bind_eq_some_iff.mp H
 obtain ⟨⟨t712, t713, t716, t717, t718⟩, A30, H⟩ := H
 (try dsimp only at H)
 have A3 := am A30
 clear A30
 simp only [Option.some.injEq, Prod.mk.injEq] at H
 obtain ⟨rfl, rfl, rfl, rfl⟩ := H
 go_enter Try.func48, Try.ntmps48
 go_wp2_with (first | ((with_reducible refine gate_dst (N := 2) rfl ?_); refine be_ 2 #[.int .i64 0, .slice none 0 0] 34 ?_; intro gb708 hg w4 hbox hb; have BK708 := am hbox; have GW708 := am (ge_ hg HB); have GE708 := am (ge_ hg HB); replace HB := bs HB hb; clear hb hbox hg) | ((with_reducible refine gate_callee (f := 109) rfl ?_); refine gl_ (some 6) Try.func109 #[.slice A0 l0.length c0] ?_; (with_reducible refine (spec_l6Open.calls _ _ l0 t709 t710 w _ ?side1 ?side2 ?side3 A2.out).mono ?_); (case side1 => exact bn HB); (case side2 => exact HR0.out); (case side3 => exact HC0.out); rintro e w5 ⟨g711, rfl, hi, hb, hb2⟩; refine ⟨_, rfl, ?_⟩; replace HB := am hb; have HI711 := am hi; have NB711_708 := am (IsS120.ne_blk hi (blk_below (bkn BK708) hb2) (by decide)); have NB708_711 := am (Ne.symm (IsS120.ne_blk hi (blk_below (bkn BK708) hb2) (by decide))); replace BK708 := am (blk_below (bkn BK708) hb2); (try clear hb); (try clear hb2); (try clear hi)) | ((with_reducible refine gate_callee (f := 108) rfl ?_); refine gl_ (some 7) Try.func108 #[.pointer (some ⟨g711, 0, none⟩)] ?_; (with_reducible refine (spec_l71Pair.calls k g711 t709 t710 t712 t713 t716 t717 t718 w _ ?side1 ?side2 A3.out).mono ?_); (case side1 => exact IsS120.now); (case side2 => exact bn HB); rintro e w6 ⟨v714, rfl, ho0, hi, hb, hk⟩; refine ⟨_, rfl, ?_⟩; replace BK708 := am (KeepBut.blk hk (bkn BK708) NB708_711.out (by simp)); have HO715 := am (Kd.R_lower ho0 (below_size (bn HB))); replace HB := am hb; replace HI711 := am hi; (try clear hb); (try clear hk); (try clear hi); (try clear ho0); obtain ⟨hnb7, hnc7⟩ := n2 NB708_711 NB711_708; obtain ⟨hcz8_0, hcz8_1, hfz8_0, hfz8_1⟩ := c2 BK708; obtain ⟨Ao9, co9, eo9⟩ := Kd.R_slice HO715.out; subst eo9))
 refine bodyPost_ret (results_ctt rfl _ _ gb708 34 #[.int .i64 t712, .slice Ao9 t713.length co9] (0, 0) _ rfl (by (with_reducible repeat (first | refine blk_drewN ?_ _ | refine blk_drew ?_ | refine blk_alloc ?_ _)); refine blk_put (cs := #[.int .i64 t712, .slice none 0 0]) ?_ 1 _ rfl; (with_reducible repeat (first | refine blk_drewN ?_ _ | refine blk_drew ?_ | refine blk_alloc ?_ _)); refine blk_put (cs := #[.int .i64 0, .slice none 0 0]) ?_ 0 _ rfl; (with_reducible repeat (first | refine blk_drewN ?_ _ | refine blk_drew ?_ | refine blk_alloc ?_ _)); exact BK708.out) Try.underlying34 rfl (by kernel_rfl)) rfl ?_
 exact ⟨_, by first | rfl | (simp [errW_none, errW_some] <;> rfl) | (simp [*, errW_none, errW_some] <;> rfl), by (with_reducible repeat (first | apply Kd.R_alloc | apply Kd.R_drewN | apply Kd.R_drew)); exact Kd.R_mono (Kd.R_far (p := ⟨gb708, 1, none⟩) (Kd.R_far (p := ⟨gb708, 0, none⟩) (Kd.R_types HO715.out BK708.out (by decide)) (fun _ hk => hk.2) (.int .i64 t712)) (fun _ hk => hk.2) (.slice Ao9 t713.length co9)) (fun _ hk => trivial), bn HB⟩

end Go.Proofs.Ytdlnnjgjfngccaa.F
