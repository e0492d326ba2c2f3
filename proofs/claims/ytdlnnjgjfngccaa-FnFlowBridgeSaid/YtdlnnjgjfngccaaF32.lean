-- Written by oprint.py (wip/tools) over the kit's print program, for this seat.
import Derived.Test.YtdlnnjgjfngccaaF0
import Derived.Test.YtdlnnjgjfngccaaF31
namespace Go.Proofs.Ytdlnnjgjfngccaa.F
open Go.RowKit Go.Proofs.YtdlnnjgjfngccaaW.PrintWords Go.Proofs.YtdlnnjgjfngccaaW.PrintLast Go.Proofs.YtdlnnjgjfngccaaW.PrintMore
attribute [local go_sem] max2_int min2_int max_two min_two max_three min_three max_four min_four   -- for this text's walks alone
set_option linter.unusedVariables false
set_option linter.unusedSimpArgs false

/-! ### impl_Net_joined: function 99 -/
def impl_Net_joined.f (k : Nat) (a0_0 : Int) (l0_1 : List (S73)) (a1 : Int) (a2 : Int) : Option (Bool) := (impl_Net_parts.f k a0_0 l0_1).bind fun t427 => (if 0 ≤ a1 then (if a1 < (t427.length : Int) then (if 0 ≤ a2 then (if a2 < (t427.length : Int) then (some ((rd t427 a1) == (rd t427 a2))) else (none)) else (none)) else (none)) else (none))
theorem impl_Net_joined.mono : ∀ a0 a1 a2 a3 k, LeO (impl_Net_joined.f k a0 a1 a2 a3) (impl_Net_joined.f (k + 1) a0 a1 a2 a3) := by
 intro a0 a1 a2 a3 k
 unfold impl_Net_joined.f
 have m0_ := @impl_Net_parts.mono
 exact mo_
set_option maxHeartbeats 8000000 in
set_option maxRecDepth 100000 in
theorem impl_Net_joined.calls (k : Nat) (a0_0 : Int) (A0_1 : Option Addr) (c0_1 : Nat) (l0_1 : List (S73)) (a1 : Int) (a2 : Int) (r : Bool) (w : World) (hr0_1 : Kd.C k73 w A0_1 l0_1.length l0_1) (hc0_1 : l0_1.length ≤ c0_1) (h : impl_Net_joined.f k a0_0 l0_1 a1 a2 = some r) :
  Calls Try.prog 99 #[.agg #[.int .i64 a0_0, .slice A0_1 l0_1.length c0_1], .int .i64 a1, .int .i64 a2] w fun e w' => e = .returned (.bool r) ∧ Below w.heap.size w w' := by
 have hu34 := Try.underlying34
 have HR0_1 := am hr0_1
 have HC0_1 := am hc0_1
 clear hr0_1 hc0_1
 have HB := am (Below.refl w.heap.size w)
 have H : ((impl_Net_parts.f k a0_0 l0_1).bind fun t427 => (if 0 ≤ a1 then (if a1 < (t427.length : Int) then (if 0 ≤ a2 then (if a2 < (t427.length : Int) then (some ((rd t427 a1) == (rd t427 a2))) else (none)) else (none)) else (none)) else (none))) = some r := h
 clear h
 replace H := Option.bind_eq_some_iff.mp H
 obtain ⟨t427, A40, H⟩ := H
 (try dsimp only at H)
 have A4 := am A40
 clear A40
 obtain ⟨c5, H⟩ := ig_ H
 have c5b0 := decide_eq_true c5
 clear c5
 obtain ⟨c6, H⟩ := ig_ H
 have c6b0 := decide_eq_true c6
 clear c6
 obtain ⟨c7, H⟩ := ig_ H
 have c7b0 := decide_eq_true c7
 clear c7
 obtain ⟨c8, H⟩ := ig_ H
 have c8b0 := decide_eq_true c8
 clear c8
 obtain rfl := Option.some.inj H
 go_enter Try.func99, Try.ntmps99
 go_wp2_with (first | ((with_reducible refine gate_dst (N := 3) rfl ?_); refine be_ 3 #[.int .i64 a0_0, .slice A0_1 l0_1.length c0_1] 34 ?_; intro gb426 hg w9 hbox hb; have BK426 := am hbox; have GW426 := am (ge_ hg HB); have GE426 := am (ge_ hg HB); replace HB := bs HB hb; clear hb hbox hg; obtain ⟨hcz10_0, hcz10_1, hfz10_0, hfz10_1⟩ := c2 BK426) | (go_at_call 121; (with_reducible refine (impl_Net_parts.calls k a0_0 _ _ l0_1 t427 _ ?side1 ?side2 A4.out).mono ?_); (case side1 => exact cb HR0_1 HB); (case side2 => exact HC0_1.out); rintro e w11 ⟨v428, rfl, ho0, hb⟩; have HO429 := am (Kd.R_lower ho0 (below_size (bn HB))); replace BK426 := bb BK426 hb; replace HB := bs HB hb; (try clear hb); (try clear ho0); obtain ⟨Ao12, co12, eo12⟩ := Kd.R_slice HO429.out; subst eo12; have p430 : 0 ≤ (a1 : Int) := oa; have q430 : a1 < (t427.length : Int) := oa; obtain ⟨ad430, e430, hx430_0⟩ := Kd.at_int (Kd.R_reads' HO429.out).2.2 a1 p430 q430; cases e430; replace p430 := eq_true p430; replace q430 := eq_true q430; have p431 : 0 ≤ (a2 : Int) := oa; have q431 : a2 < (t427.length : Int) := oa; obtain ⟨ad431, e431, hx431_0⟩ := Kd.at_int (Kd.R_reads' HO429.out).2.2 a2 p431 q431; obtain rfl : ad430 = ad431 := (by injection e431); replace p431 := eq_true p431; replace q431 := eq_true q431))
 repeat (go_quiet (first | ((with_reducible refine gate_dst (N := 3) rfl ?_); refine be_ 3 #[.int .i64 a0_0, .slice A0_1 l0_1.length c0_1] 34 ?_; intro gb426 hg w9 hbox hb; have BK426 := am hbox; have GW426 := am (ge_ hg HB); have GE426 := am (ge_ hg HB); replace HB := bs HB hb; clear hb hbox hg; obtain ⟨hcz10_0, hcz10_1, hfz10_0, hfz10_1⟩ := c2 BK426) | (go_at_call 121; (with_reducible refine (impl_Net_parts.calls k a0_0 _ _ l0_1 t427 _ ?side1 ?side2 A4.out).mono ?_); (case side1 => exact cb HR0_1 HB); (case side2 => exact HC0_1.out); rintro e w11 ⟨v428, rfl, ho0, hb⟩; have HO429 := am (Kd.R_lower ho0 (below_size (bn HB))); replace BK426 := bb BK426 hb; replace HB := bs HB hb; (try clear hb); (try clear ho0); obtain ⟨Ao12, co12, eo12⟩ := Kd.R_slice HO429.out; subst eo12; have p430 : 0 ≤ (a1 : Int) := oa; have q430 : a1 < (t427.length : Int) := oa; obtain ⟨ad430, e430, hx430_0⟩ := Kd.at_int (Kd.R_reads' HO429.out).2.2 a1 p430 q430; cases e430; replace p430 := eq_true p430; replace q430 := eq_true q430; have p431 : 0 ≤ (a2 : Int) := oa; have q431 : a2 < (t427.length : Int) := oa; obtain ⟨ad431, e431, hx431_0⟩ := Kd.at_int (Kd.R_reads' HO429.out).2.2 a2 p431 q431; obtain rfl : ad430 = ad431 := (by injection e431); replace p431 := eq_true p431; replace q431 := eq_true q431)); try go_wp2_with (first | ((with_reducible refine gate_dst (N := 3) rfl ?_); refine be_ 3 #[.int .i64 a0_0, .slice A0_1 l0_1.length c0_1] 34 ?_; intro gb426 hg w9 hbox hb; have BK426 := am hbox; have GW426 := am (ge_ hg HB); have GE426 := am (ge_ hg HB); replace HB := bs HB hb; clear hb hbox hg; obtain ⟨hcz10_0, hcz10_1, hfz10_0, hfz10_1⟩ := c2 BK426) | (go_at_call 121; (with_reducible refine (impl_Net_parts.calls k a0_0 _ _ l0_1 t427 _ ?side1 ?side2 A4.out).mono ?_); (case side1 => exact cb HR0_1 HB); (case side2 => exact HC0_1.out); rintro e w11 ⟨v428, rfl, ho0, hb⟩; have HO429 := am (Kd.R_lower ho0 (below_size (bn HB))); replace BK426 := bb BK426 hb; replace HB := bs HB hb; (try clear hb); (try clear ho0); obtain ⟨Ao12, co12, eo12⟩ := Kd.R_slice HO429.out; subst eo12; have p430 : 0 ≤ (a1 : Int) := oa; have q430 : a1 < (t427.length : Int) := oa; obtain ⟨ad430, e430, hx430_0⟩ := Kd.at_int (Kd.R_reads' HO429.out).2.2 a1 p430 q430; cases e430; replace p430 := eq_true p430; replace q430 := eq_true q430; have p431 : 0 ≤ (a2 : Int) := oa; have q431 : a2 < (t427.length : Int) := oa; obtain ⟨ad431, e431, hx431_0⟩ := Kd.at_int (Kd.R_reads' HO429.out).2.2 a2 p431 q431; obtain rfl : ad430 = ad431 := (by injection e431); replace p431 := eq_true p431; replace q431 := eq_true q431)))
 go_ret
 exact ⟨by first | rfl | (simp [errW_none, errW_some] <;> rfl) | (simp [*, errW_none, errW_some] <;> rfl), bn HB⟩

end Go.Proofs.Ytdlnnjgjfngccaa.F
