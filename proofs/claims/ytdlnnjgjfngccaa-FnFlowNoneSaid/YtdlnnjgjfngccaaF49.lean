-- Written by oprint.py (wip/tools) over the kit's print program, for this seat.
import Derived.Test.YtdlnnjgjfngccaaF0
import Derived.Test.YtdlnnjgjfngccaaF41
import Derived.Test.YtdlnnjgjfngccaaF45
namespace Go.Proofs.Ytdlnnjgjfngccaa.F
open Go.RowKit Go.Proofs.YtdlnnjgjfngccaaW.PrintWords Go.Proofs.YtdlnnjgjfngccaaW.PrintLast Go.Proofs.YtdlnnjgjfngccaaW.PrintMore
attribute [local go_sem] max2_int min2_int max_two min_two max_three min_three max_four min_four   -- for this text's walks alone
set_option linter.unusedVariables false
set_option linter.unusedSimpArgs false

/-! ### spec_DrawFlowWeak: function 49 -/
def spec_DrawFlowWeak.f (k : Nat) (l0 : List Int) : Option (Int × (List (S73))) := (spec_l6Open.f l0).bind fun bt732 => ((spec_l71Any.f k bt732.1 bt732.2).bind fun bt735 => (some (bt735.1, bt735.2.1)))
theorem spec_DrawFlowWeak.mono : ∀ a0 k, LeO (spec_DrawFlowWeak.f k a0) (spec_DrawFlowWeak.f (k + 1) a0) := by
 intro a0 k
 unfold spec_DrawFlowWeak.f
 have m0_ := @spec_l71Any.mono
 exact mo_
set_option maxHeartbeats 8000000 in
set_option maxRecDepth 100000 in
theorem spec_DrawFlowWeak.calls (k : Nat) (A0 : Option Addr) (c0 : Nat) (l0 : List Int) (r1 : Int) (r2 : List (S73)) (w : World) (hr0 : Kd.C (Kd.int .u8) w A0 l0.length l0) (hc0 : l0.length ≤ c0) (h : spec_DrawFlowWeak.f k l0 = some (r1, r2)) :
  Calls Try.prog 49 #[.slice A0 l0.length c0] w fun e w' => ∃ v1_ : Value, e = .returned (.agg #[.int .i64 r1, v1_]) ∧ Kd.R k73 73 w' w.heap.size (fun _ => True) v1_ r2 ∧ Below w.heap.size w w' := by
 have hu34 := Try.underlying34
 have HR0 := am hr0
 have HC0 := am hc0
 clear hr0 hc0
 have HB := am (Below.refl w.heap.size w)
 have H : ((spec_l6Open.f l0).bind fun bt732 => ((spec_l71Any.f k bt732.1 bt732.2).bind fun bt735 => (some (bt735.1, bt735.2.1)))) = some (r1, r2) := h
 clear h
 replace H := Option.bind_eq_some_iff.mp H
 obtain ⟨⟨t732, t733⟩, A20, H⟩ := H
 (try dsimp only at H)
 have A2 := am A20
 clear A20
 replace H := Option.bind_eq_some_iff.mp H
 obtain ⟨⟨t735, t736, t739⟩, A30, H⟩ := H
 (try dsimp only at H)
 have A3 := am A30
 clear A30
 simp only [Option.some.injEq, Prod.mk.injEq] at H
 obtain ⟨rfl, rfl⟩ := H
 go_enter Try.func49, Try.ntmps49
 go_wp2_with (first | ((with_reducible refine gate_dst (N := 2) rfl ?_); refine be_ 2 #[.int .i64 0, .slice none 0 0] 34 ?_; intro gb731 hg w4 hbox hb; have BK731 := am hbox; have GW731 := am (ge_ hg HB); have GE731 := am (ge_ hg HB); replace HB := bs HB hb; clear hb hbox hg) | ((with_reducible refine gate_callee (f := 109) rfl ?_); refine gl_ (some 4) Try.func109 #[.slice A0 l0.length c0] ?_; (with_reducible refine (spec_l6Open.calls _ _ l0 t732 t733 w _ ?side1 ?side2 ?side3 A2.out).mono ?_); (case side1 => exact bn HB); (case side2 => exact HR0.out); (case side3 => exact HC0.out); rintro e w5 ⟨g734, rfl, hi, hb, hb2⟩; refine ⟨_, rfl, ?_⟩; replace HB := am hb; have HI734 := am hi; have NB734_731 := am (IsS120.ne_blk hi (blk_below (bkn BK731) hb2) (by decide)); have NB731_734 := am (Ne.symm (IsS120.ne_blk hi (blk_below (bkn BK731) hb2) (by decide))); replace BK731 := am (blk_below (bkn BK731) hb2); (try clear hb); (try clear hb2); (try clear hi)) | ((with_reducible refine gate_callee (f := 110) rfl ?_); refine gl_ (some 5) Try.func110 #[.pointer (some ⟨g734, 0, none⟩)] ?_; (with_reducible refine (spec_l71Any.calls k g734 t732 t733 t735 t736 t739 w _ ?side1 ?side2 A3.out).mono ?_); (case side1 => exact IsS120.now); (case side2 => exact bn HB); rintro e w6 ⟨v737, rfl, ho0, hi, hb, hk⟩; refine ⟨_, rfl, ?_⟩; replace BK731 := am (KeepBut.blk hk (bkn BK731) NB731_734.out (by simp)); have HO738 := am (Kd.R_lower ho0 (below_size (bn HB))); replace HB := am hb; replace HI734 := am hi; (try clear hb); (try clear hk); (try clear hi); (try clear ho0); obtain ⟨hnb7, hnc7⟩ := n2 NB731_734 NB734_731; obtain ⟨hcz8_0, hcz8_1, hfz8_0, hfz8_1⟩ := c2 BK731; obtain ⟨Ao9, co9, eo9⟩ := Kd.R_slice HO738.out; subst eo9))
 refine bodyPost_ret (results_cell_row rfl _ _ gb731 34 #[.int .i64 t735, .slice Ao9 t736.length co9] (0, 0) _ rfl (by (with_reducible repeat (first | refine blk_drewN ?_ _ | refine blk_drew ?_ | refine blk_alloc ?_ _)); refine blk_put (cs := #[.int .i64 t735, .slice none 0 0]) ?_ 1 _ rfl; (with_reducible repeat (first | refine blk_drewN ?_ _ | refine blk_drew ?_ | refine blk_alloc ?_ _)); refine blk_put (cs := #[.int .i64 0, .slice none 0 0]) ?_ 0 _ rfl; (with_reducible repeat (first | refine blk_drewN ?_ _ | refine blk_drew ?_ | refine blk_alloc ?_ _)); exact BK731.out) Try.underlying34 rfl (by kernel_rfl)) rfl ?_
 exact ⟨_, by first | rfl | (simp [errW_none, errW_some] <;> rfl) | (simp [*, errW_none, errW_some] <;> rfl), by (with_reducible repeat (first | apply Kd.R_alloc | apply Kd.R_drewN | apply Kd.R_drew)); exact Kd.R_mono (Kd.R_far (p := ⟨gb731, 1, none⟩) (Kd.R_far (p := ⟨gb731, 0, none⟩) (Kd.R_types HO738.out BK731.out (by decide)) (fun _ hk => hk.2) (.int .i64 t735)) (fun _ hk => hk.2) (.slice Ao9 t736.length co9)) (fun _ hk => trivial), bn HB⟩

end Go.Proofs.Ytdlnnjgjfngccaa.F
