-- Written by oprint.py (wip/tools) over the kit's print program, for this seat.
import Derived.Test.YtdlnnjgjfngccaaF0
import Derived.Test.YtdlnnjgjfngccaaF10
import Derived.Test.YtdlnnjgjfngccaaF32
import Derived.Test.YtdlnnjgjfngccaaF37
import Derived.Test.YtdlnnjgjfngccaaF38
namespace Go.Proofs.Ytdlnnjgjfngccaa.F
open Go.RowKit Go.Proofs.YtdlnnjgjfngccaaW.PrintWords Go.Proofs.YtdlnnjgjfngccaaW.PrintLast Go.Proofs.YtdlnnjgjfngccaaW.PrintMore
attribute [local go_sem] max2_int min2_int max_two min_two max_three min_three max_four min_four   -- for this text's walks alone
set_option linter.unusedVariables false
set_option linter.unusedSimpArgs false

/-! ### impl_FlowParts: function 46 -/
def impl_FlowParts.f (k : Nat) (a0_0 : Int) (l0_1 : List (S73)) (a1 : Int) (a2 : Int) (l3 : List (S73)) : Option (Bool) := (impl_twoKnots.f k a0_0 l0_1 a1 a2).bind fun t530 => (if t530 = true then ((impl_Net_own.f k a0_0 l0_1 l3).bind fun t531 => (if t531 = true then ((impl_Net_less.f k a0_0 l0_1 l3).bind fun bt532 => ((impl_Net_joined.f k bt532.1 bt532.2 a1 a2).bind fun t536 => (some (!t536)))) else (some false))) else (some false))
theorem impl_FlowParts.mono : ∀ a0 a1 a2 a3 a4 k, LeO (impl_FlowParts.f k a0 a1 a2 a3 a4) (impl_FlowParts.f (k + 1) a0 a1 a2 a3 a4) := by
 intro a0 a1 a2 a3 a4 k
 unfold impl_FlowParts.f
 have m0_ := @impl_Net_joined.mono
 have m1_ := @impl_Net_less.mono
 have m2_ := @impl_Net_own.mono
 have m3_ := @impl_twoKnots.mono
 exact mo_
set_option maxHeartbeats 8000000 in
set_option maxRecDepth 100000 in
theorem impl_FlowParts.calls (k : Nat) (a0_0 : Int) (A0_1 : Option Addr) (c0_1 : Nat) (l0_1 : List (S73)) (a1 : Int) (a2 : Int) (A3 : Option Addr) (c3 : Nat) (l3 : List (S73)) (r : Bool) (w : World) (hr0_1 : Kd.C k73 w A0_1 l0_1.length l0_1) (hc0_1 : l0_1.length ≤ c0_1) (hr3 : Kd.C k73 w A3 l3.length l3) (hc3 : l3.length ≤ c3) (h : impl_FlowParts.f k a0_0 l0_1 a1 a2 l3 = some r) :
  Calls Try.prog 46 #[.agg #[.int .i64 a0_0, .slice A0_1 l0_1.length c0_1], .int .i64 a1, .int .i64 a2, .slice A3 l3.length c3] w fun e w' => e = .returned (.bool r) ∧ Below w.heap.size w w' := by
 have hu34 := Try.underlying34
 have HR0_1 := am hr0_1
 have HC0_1 := am hc0_1
 clear hr0_1 hc0_1
 have HR3 := am hr3
 have HC3 := am hc3
 clear hr3 hc3
 have HB := am (Below.refl w.heap.size w)
 have H : ((impl_twoKnots.f k a0_0 l0_1 a1 a2).bind fun t530 => (if t530 = true then ((impl_Net_own.f k a0_0 l0_1 l3).bind fun t531 => (if t531 = true then ((impl_Net_less.f k a0_0 l0_1 l3).bind fun bt532 => ((impl_Net_joined.f k bt532.1 bt532.2 a1 a2).bind fun t536 => (some (!t536)))) else (some false))) else (some false))) = some r := h
 clear h
 replace H := Option.bind_eq_some_iff.mp H
 obtain ⟨t530, A50, H⟩ := H
 (try dsimp only at H)
 have A5 := am A50
 clear A50
 by_cases c6 : t530 = true
 ·subst c6
  rw [if_pos rfl] at H
  replace H := Option.bind_eq_some_iff.mp H
  obtain ⟨t531, A70, H⟩ := H
  (try dsimp only at H)
  have A7 := am A70
  clear A70
  by_cases c8 : t531 = true
  ·subst c8
   rw [if_pos rfl] at H
   replace H := Option.bind_eq_some_iff.mp H
   obtain ⟨⟨t532, t533⟩, A90, H⟩ := H
   (try dsimp only at H)
   have A9 := am A90
   clear A90
   replace H := Option.bind_eq_some_iff.mp H
   obtain ⟨t536, A100, H⟩ := H
   (try dsimp only at H)
   have A10 := am A100
   clear A100
   obtain rfl := Option.some.inj H
   go_enter Try.func46, Try.ntmps46
   go_wp2_with (first | ((with_reducible refine gate_dst (N := 4) rfl ?_); refine be_ 4 #[.int .i64 a0_0, .slice A0_1 l0_1.length c0_1] 34 ?_; intro gb529 hg w11 hbox hb; have BK529 := am hbox; have GW529 := am (ge_ hg HB); have GE529 := am (ge_ hg HB); replace HB := bs HB hb; clear hb hbox hg; obtain ⟨hcz12_0, hcz12_1, hfz12_0, hfz12_1⟩ := c2 BK529) | ((with_reducible refine gate_callee (f := 89) rfl ?_); refine gl_ (some 12) Try.func89 #[.agg #[.int .i64 a0_0, .slice A0_1 l0_1.length c0_1], .int .i64 a1, .int .i64 a2] ?_; (with_reducible refine (impl_twoKnots.calls k a0_0 _ _ l0_1 a1 a2 true _ ?side1 ?side2 A5.out).mono ?_); (case side1 => exact cb HR0_1 HB); (case side2 => exact HC0_1.out); rintro e w13 ⟨rfl, hb⟩; refine ⟨_, rfl, ?_⟩; replace BK529 := bb BK529 hb; replace HB := bs HB hb; (try clear hb); obtain ⟨hcz14_0, hcz14_1, hfz14_0, hfz14_1⟩ := c2 BK529) | (go_at_call 105; (with_reducible refine (impl_Net_own.calls k a0_0 _ _ l0_1 _ _ l3 true _ ?side1 ?side2 ?side3 ?side4 A7.out).mono ?_); (case side1 => exact cb HR0_1 HB); (case side2 => exact HC0_1.out); (case side3 => exact cb HR3 HB); (case side4 => exact HC3.out); rintro e w15 ⟨rfl, hb⟩; replace BK529 := bb BK529 hb; replace HB := bs HB hb; (try clear hb); obtain ⟨hcz16_0, hcz16_1, hfz16_0, hfz16_1⟩ := c2 BK529) | (go_at_call 106; (with_reducible refine (impl_Net_less.calls k a0_0 _ _ l0_1 _ _ l3 t532 t533 _ ?side1 ?side2 ?side3 ?side4 A9.out).mono ?_); (case side1 => exact cb HR0_1 HB); (case side2 => exact HC0_1.out); (case side3 => exact cb HR3 HB); (case side4 => exact HC3.out); rintro e w17 ⟨v534, rfl, ho0, hb⟩; have HO535 := am (Kd.R_lower ho0 (below_size (bn HB))); replace BK529 := bb BK529 hb; replace HB := bs HB hb; (try clear hb); (try clear ho0); obtain ⟨Ao18, co18, eo18⟩ := Kd.R_slice HO535.out; subst eo18) | (go_at_call 99; (with_reducible refine (impl_Net_joined.calls k t532 _ _ t533 a1 a2 t536 _ ?side1 ?side2 A10.out).mono ?_); (case side1 => exact (Kd.R_reads' (onR HO535)).2.2); (case side2 => exact (Kd.R_reads' HO535.out).2.1); rintro e w19 ⟨rfl, hb⟩; replace HO535 := am (Kd.R_below (onR HO535) hb); replace BK529 := bb BK529 hb; replace HB := bs HB hb; (try clear hb); (try clear hi)))
   go_ret
   exact ⟨by first | rfl | (simp [errW_none, errW_some] <;> rfl) | (simp [*, errW_none, errW_some] <;> rfl), bn HB⟩
  ·replace c8 := Bool.eq_false_iff.mpr c8
   subst c8
   rw [if_neg (show ¬ (false = true) by decide)] at H
   obtain rfl := Option.some.inj H
   go_enter Try.func46, Try.ntmps46
   go_wp2_with (first | ((with_reducible refine gate_dst (N := 4) rfl ?_); refine be_ 4 #[.int .i64 a0_0, .slice A0_1 l0_1.length c0_1] 34 ?_; intro gb529 hg w20 hbox hb; have BK529 := am hbox; have GW529 := am (ge_ hg HB); have GE529 := am (ge_ hg HB); replace HB := bs HB hb; clear hb hbox hg; obtain ⟨hcz21_0, hcz21_1, hfz21_0, hfz21_1⟩ := c2 BK529) | ((with_reducible refine gate_callee (f := 89) rfl ?_); refine gl_ (some 12) Try.func89 #[.agg #[.int .i64 a0_0, .slice A0_1 l0_1.length c0_1], .int .i64 a1, .int .i64 a2] ?_; (with_reducible refine (impl_twoKnots.calls k a0_0 _ _ l0_1 a1 a2 true _ ?side1 ?side2 A5.out).mono ?_); (case side1 => exact cb HR0_1 HB); (case side2 => exact HC0_1.out); rintro e w22 ⟨rfl, hb⟩; refine ⟨_, rfl, ?_⟩; replace BK529 := bb BK529 hb; replace HB := bs HB hb; (try clear hb); obtain ⟨hcz23_0, hcz23_1, hfz23_0, hfz23_1⟩ := c2 BK529) | (go_at_call 105; (with_reducible refine (impl_Net_own.calls k a0_0 _ _ l0_1 _ _ l3 false _ ?side1 ?side2 ?side3 ?side4 A7.out).mono ?_); (case side1 => exact cb HR0_1 HB); (case side2 => exact HC0_1.out); (case side3 => exact cb HR3 HB); (case side4 => exact HC3.out); rintro e w24 ⟨rfl, hb⟩; replace BK529 := bb BK529 hb; replace HB := bs HB hb; (try clear hb); (try clear hi)))
   go_ret
   exact ⟨by first | rfl | (simp [errW_none, errW_some] <;> rfl) | (simp [*, errW_none, errW_some] <;> rfl), bn HB⟩
 ·replace c6 := Bool.eq_false_iff.mpr c6
  subst c6
  rw [if_neg (show ¬ (false = true) by decide)] at H
  obtain rfl := Option.some.inj H
  go_enter Try.func46, Try.ntmps46
  go_wp2_with (first | ((with_reducible refine gate_dst (N := 4) rfl ?_); refine be_ 4 #[.int .i64 a0_0, .slice A0_1 l0_1.length c0_1] 34 ?_; intro gb529 hg w25 hbox hb; have BK529 := am hbox; have GW529 := am (ge_ hg HB); have GE529 := am (ge_ hg HB); replace HB := bs HB hb; clear hb hbox hg; obtain ⟨hcz26_0, hcz26_1, hfz26_0, hfz26_1⟩ := c2 BK529) | ((with_reducible refine gate_callee (f := 89) rfl ?_); refine gl_ (some 12) Try.func89 #[.agg #[.int .i64 a0_0, .slice A0_1 l0_1.length c0_1], .int .i64 a1, .int .i64 a2] ?_; (with_reducible refine (impl_twoKnots.calls k a0_0 _ _ l0_1 a1 a2 false _ ?side1 ?side2 A5.out).mono ?_); (case side1 => exact cb HR0_1 HB); (case side2 => exact HC0_1.out); rintro e w27 ⟨rfl, hb⟩; refine ⟨_, rfl, ?_⟩; replace BK529 := bb BK529 hb; replace HB := bs HB hb; (try clear hb); (try clear hi)))
  go_ret
  exact ⟨by first | rfl | (simp [errW_none, errW_some] <;> rfl) | (simp [*, errW_none, errW_some] <;> rfl), bn HB⟩

end Go.Proofs.Ytdlnnjgjfngccaa.F
