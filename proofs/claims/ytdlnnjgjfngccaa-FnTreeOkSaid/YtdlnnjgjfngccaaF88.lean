-- Written by oprint.py (wip/tools) over the kit's print program, for this seat.
import Derived.Test.YtdlnnjgjfngccaaF0
import Derived.Test.YtdlnnjgjfngccaaF24
import Derived.Test.YtdlnnjgjfngccaaF25
import Derived.Test.YtdlnnjgjfngccaaF67
import Derived.Test.YtdlnnjgjfngccaaF75
namespace Go.Proofs.Ytdlnnjgjfngccaa.F
open Go.RowKit Go.Proofs.YtdlnnjgjfngccaaW.PrintWords Go.Proofs.YtdlnnjgjfngccaaW.PrintLast Go.Proofs.YtdlnnjgjfngccaaW.PrintMore
attribute [local go_sem] max2_int min2_int max_two min_two max_three min_three max_four min_four   -- for this text's walks alone
set_option linter.unusedVariables false
set_option linter.unusedSimpArgs false

/-! ### impl_BridgeIs: function 80 -/
def impl_BridgeIs.f (k : Nat) (a0_0 : Int) (l0_1 : List (S73)) (a1 : Int) (a2 : Int) : Option (Bool) := (impl_NetHas.f k a0_0 l0_1 a1 a2).bind fun t1430 => (if t1430 = true then ((impl_Net_bridges.f k a0_0 l0_1).bind fun t1431 => ((impl_tie.f a1 a2).bind fun bt1434 => ((slices_Contains_impl_Tie_impl_Tie.f k t1431 bt1434.1 bt1434.2).bind fun t1436 => (some t1436)))) else (some false))
theorem impl_BridgeIs.mono : ∀ a0 a1 a2 a3 k, LeO (impl_BridgeIs.f k a0 a1 a2 a3) (impl_BridgeIs.f (k + 1) a0 a1 a2 a3) := by
 intro a0 a1 a2 a3 k
 unfold impl_BridgeIs.f
 have m0_ := @impl_NetHas.mono
 have m1_ := @impl_Net_bridges.mono
 have m2_ := @slices_Contains_impl_Tie_impl_Tie.mono
 exact mo_
set_option maxHeartbeats 8000000 in
set_option maxRecDepth 100000 in
theorem impl_BridgeIs.calls (k : Nat) (a0_0 : Int) (A0_1 : Option Addr) (c0_1 : Nat) (l0_1 : List (S73)) (a1 : Int) (a2 : Int) (r : Bool) (w : World) (hr0_1 : Kd.C k73 w A0_1 l0_1.length l0_1) (hc0_1 : l0_1.length ≤ c0_1) (h : impl_BridgeIs.f k a0_0 l0_1 a1 a2 = some r) :
  Calls Try.prog 80 #[.agg #[.int .i64 a0_0, .slice A0_1 l0_1.length c0_1], .int .i64 a1, .int .i64 a2] w fun e w' => e = .returned (.bool r) ∧ Below w.heap.size w w' := by
 have hu34 := Try.underlying34
 have HR0_1 := am hr0_1
 have HC0_1 := am hc0_1
 clear hr0_1 hc0_1
 have HB := am (Below.refl w.heap.size w)
 have H : ((impl_NetHas.f k a0_0 l0_1 a1 a2).bind fun t1430 => (if t1430 = true then ((impl_Net_bridges.f k a0_0 l0_1).bind fun t1431 => ((impl_tie.f a1 a2).bind fun bt1434 => ((slices_Contains_impl_Tie_impl_Tie.f k t1431 bt1434.1 bt1434.2).bind fun t1436 => (some t1436)))) else (some false))) = some r := h
 clear h
 replace H := Option.bind_eq_some_iff.mp H
 obtain ⟨t1430, A40, H⟩ := H
 (try dsimp only at H)
 have A4 := am A40
 clear A40
 by_cases c5 : t1430 = true
 ·subst c5
  rw [if_pos rfl] at H
  replace H := Option.bind_eq_some_iff.mp H
  obtain ⟨t1431, A60, H⟩ := H
  (try dsimp only at H)
  have A6 := am A60
  clear A60
  replace H := Option.bind_eq_some_iff.mp H
  obtain ⟨⟨t1434, t1435⟩, A70, H⟩ := H
  (try dsimp only at H)
  have A7 := am A70
  clear A70
  replace H := Option.bind_eq_some_iff.mp H
  obtain ⟨t1436, A80, H⟩ := H
  (try dsimp only at H)
  have A8 := am A80
  clear A80
  obtain rfl := Option.some.inj H
  go_enter Try.func80, Try.ntmps80
  go_wp2_with (first | ((with_reducible refine gate_dst (N := 3) rfl ?_); refine be_ 3 #[.int .i64 a0_0, .slice A0_1 l0_1.length c0_1] 34 ?_; intro gb1429 hg w9 hbox hb; have BK1429 := am hbox; have GW1429 := am (ge_ hg HB); have GE1429 := am (ge_ hg HB); replace HB := bs HB hb; clear hb hbox hg; obtain ⟨hcz10_0, hcz10_1, hfz10_0, hfz10_1⟩ := c2 BK1429) | ((with_reducible refine gate_callee (f := 122) rfl ?_); refine gl_ (some 10) Try.func122 #[.agg #[.int .i64 a0_0, .slice A0_1 l0_1.length c0_1], .int .i64 a1, .int .i64 a2] ?_; (with_reducible refine (impl_NetHas.calls k a0_0 _ _ l0_1 a1 a2 true _ ?side1 ?side2 A4.out).mono ?_); (case side1 => exact cb HR0_1 HB); (case side2 => exact HC0_1.out); rintro e w11 ⟨rfl, hb⟩; refine ⟨_, rfl, ?_⟩; replace BK1429 := bb BK1429 hb; replace HB := bs HB hb; (try clear hb); obtain ⟨hcz12_0, hcz12_1, hfz12_0, hfz12_1⟩ := c2 BK1429) | (go_at_call 117; (with_reducible refine (impl_Net_bridges.calls k a0_0 _ _ l0_1 t1431 _ ?side1 ?side2 A6.out).mono ?_); (case side1 => exact cb HR0_1 HB); (case side2 => exact HC0_1.out); rintro e w13 ⟨v1432, rfl, ho0, hb⟩; have HO1433 := am (Kd.R_lower ho0 (below_size (bn HB))); replace BK1429 := bb BK1429 hb; replace HB := bs HB hb; (try clear hb); (try clear ho0)) | (go_at_call 112; (with_reducible refine (impl_tie.calls a1 a2 t1434 t1435 _ A7.out).mono ?_); rintro e w14 ⟨rfl, hb⟩; replace HO1433 := am (Kd.R_below (onR HO1433) hb); replace BK1429 := bb BK1429 hb; replace HB := bs HB hb; (try clear hb); obtain ⟨Ao15, co15, eo15⟩ := Kd.R_slice HO1433.out; subst eo15) | (go_at_call 128; (with_reducible refine (slices_Contains_impl_Tie_impl_Tie.calls k _ _ t1431 t1434 t1435 t1436 _ ?side1 ?side2 A8.out).mono ?_); (case side1 => exact (Kd.R_reads' (onR HO1433)).2.2); (case side2 => exact (Kd.R_reads' HO1433.out).2.1); rintro e w16 ⟨rfl, hb⟩; replace HO1433 := am (Kd.R_below (onR HO1433) hb); replace BK1429 := bb BK1429 hb; replace HB := bs HB hb; (try clear hb); (try clear hi)))
  go_ret
  exact ⟨by first | rfl | (simp [errW_none, errW_some] <;> rfl) | (simp [*, errW_none, errW_some] <;> rfl), bn HB⟩
 ·replace c5 := Bool.eq_false_iff.mpr c5
  subst c5
  rw [if_neg (show ¬ (false = true) by decide)] at H
  obtain rfl := Option.some.inj H
  go_enter Try.func80, Try.ntmps80
  go_wp2_with (first | ((with_reducible refine gate_dst (N := 3) rfl ?_); refine be_ 3 #[.int .i64 a0_0, .slice A0_1 l0_1.length c0_1] 34 ?_; intro gb1429 hg w17 hbox hb; have BK1429 := am hbox; have GW1429 := am (ge_ hg HB); have GE1429 := am (ge_ hg HB); replace HB := bs HB hb; clear hb hbox hg; obtain ⟨hcz18_0, hcz18_1, hfz18_0, hfz18_1⟩ := c2 BK1429) | ((with_reducible refine gate_callee (f := 122) rfl ?_); refine gl_ (some 10) Try.func122 #[.agg #[.int .i64 a0_0, .slice A0_1 l0_1.length c0_1], .int .i64 a1, .int .i64 a2] ?_; (with_reducible refine (impl_NetHas.calls k a0_0 _ _ l0_1 a1 a2 false _ ?side1 ?side2 A4.out).mono ?_); (case side1 => exact cb HR0_1 HB); (case side2 => exact HC0_1.out); rintro e w19 ⟨rfl, hb⟩; refine ⟨_, rfl, ?_⟩; replace BK1429 := bb BK1429 hb; replace HB := bs HB hb; (try clear hb); (try clear hi)))
  go_ret
  exact ⟨by first | rfl | (simp [errW_none, errW_some] <;> rfl) | (simp [*, errW_none, errW_some] <;> rfl), bn HB⟩

end Go.Proofs.Ytdlnnjgjfngccaa.F
