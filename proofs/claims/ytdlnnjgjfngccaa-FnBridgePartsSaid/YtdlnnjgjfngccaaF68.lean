-- Written by oprint.py (wip/tools) over the kit's print program, for this seat.
import Derived.Test.YtdlnnjgjfngccaaF0
import Derived.Test.YtdlnnjgjfngccaaF67
import Derived.Test.YtdlnnjgjfngccaaF8
namespace Go.Proofs.Ytdlnnjgjfngccaa.F
open Go.RowKit Go.Proofs.YtdlnnjgjfngccaaW.PrintWords Go.Proofs.YtdlnnjgjfngccaaW.PrintLast Go.Proofs.YtdlnnjgjfngccaaW.PrintMore
attribute [local go_sem] max2_int min2_int max_two min_two max_three min_three max_four min_four   -- for this text's walks alone
set_option linter.unusedVariables false
set_option linter.unusedSimpArgs false

/-! ### impl_BridgeList: function 63 -/
def impl_BridgeList.f (k : Nat) (a0_0 : Int) (l0_1 : List (S73)) : Option ((List (S73))) := (impl_NetOk.f k a0_0 l0_1).bind fun t1024 => (if t1024 = true then ((impl_Net_bridges.f k a0_0 l0_1).bind fun t1025 => (some t1025)) else (some (([] : List (S73)))))
theorem impl_BridgeList.mono : ∀ a0 a1 k, LeO (impl_BridgeList.f k a0 a1) (impl_BridgeList.f (k + 1) a0 a1) := by
 intro a0 a1 k
 unfold impl_BridgeList.f
 have m0_ := @impl_NetOk.mono
 have m1_ := @impl_Net_bridges.mono
 exact mo_
set_option maxHeartbeats 8000000 in
set_option maxRecDepth 100000 in
theorem impl_BridgeList.calls (k : Nat) (a0_0 : Int) (A0_1 : Option Addr) (c0_1 : Nat) (l0_1 : List (S73)) (r : List (S73)) (w : World) (hr0_1 : Kd.C k73 w A0_1 l0_1.length l0_1) (hc0_1 : l0_1.length ≤ c0_1) (h : impl_BridgeList.f k a0_0 l0_1 = some r) :
  Calls Try.prog 63 #[.agg #[.int .i64 a0_0, .slice A0_1 l0_1.length c0_1]] w fun e w' => ∃ v0_ : Value, e = .returned (v0_) ∧ Kd.R k73 73 w' w.heap.size (fun _ => True) v0_ r ∧ Below w.heap.size w w' := by
 have hu34 := Try.underlying34
 have HR0_1 := am hr0_1
 have HC0_1 := am hc0_1
 clear hr0_1 hc0_1
 have HB := am (Below.refl w.heap.size w)
 have H : ((impl_NetOk.f k a0_0 l0_1).bind fun t1024 => (if t1024 = true then ((impl_Net_bridges.f k a0_0 l0_1).bind fun t1025 => (some t1025)) else (some (([] : List (S73)))))) = some r := h
 clear h
 replace H := Option.bind_eq_some_iff.mp H
 obtain ⟨t1024, A20, H⟩ := H
 (try dsimp only at H)
 have A2 := am A20
 clear A20
 by_cases c3 : t1024 = true
 ·subst c3
  rw [if_pos rfl] at H
  replace H := Option.bind_eq_some_iff.mp H
  obtain ⟨t1025, A40, H⟩ := H
  (try dsimp only at H)
  have A4 := am A40
  clear A40
  obtain rfl := Option.some.inj H
  go_enter Try.func63, Try.ntmps63
  go_wp2_with (first | ((with_reducible refine gate_dst (N := 1) rfl ?_); refine be_ 1 #[.int .i64 a0_0, .slice A0_1 l0_1.length c0_1] 34 ?_; intro gb1023 hg w5 hbox hb; have BK1023 := am hbox; have GW1023 := am (ge_ hg HB); have GE1023 := am (ge_ hg HB); replace HB := bs HB hb; clear hb hbox hg; obtain ⟨hcz6_0, hcz6_1, hfz6_0, hfz6_1⟩ := c2 BK1023) | ((with_reducible refine gate_callee (f := 91) rfl ?_); refine gl_ (some 4) Try.func91 #[.agg #[.int .i64 a0_0, .slice A0_1 l0_1.length c0_1]] ?_; (with_reducible refine (impl_NetOk.calls k a0_0 _ _ l0_1 true _ ?side1 ?side2 A2.out).mono ?_); (case side1 => exact cb HR0_1 HB); (case side2 => exact HC0_1.out); rintro e w7 ⟨rfl, hb⟩; refine ⟨_, rfl, ?_⟩; replace BK1023 := bb BK1023 hb; replace HB := bs HB hb; (try clear hb); obtain ⟨hcz8_0, hcz8_1, hfz8_0, hfz8_1⟩ := c2 BK1023) | ((with_reducible refine gate_callee (f := 117) rfl ?_); refine gl_ (some 8) Try.func117 #[.agg #[.int .i64 a0_0, .slice A0_1 l0_1.length c0_1]] ?_; (with_reducible refine (impl_Net_bridges.calls k a0_0 _ _ l0_1 t1025 _ ?side1 ?side2 A4.out).mono ?_); (case side1 => exact cb HR0_1 HB); (case side2 => exact HC0_1.out); rintro e w9 ⟨v1026, rfl, ho0, hb⟩; refine ⟨_, rfl, ?_⟩; have HO1027 := am (Kd.R_lower ho0 (below_size (bn HB))); replace BK1023 := bb BK1023 hb; replace HB := bs HB hb; (try clear hb); (try clear ho0)))
  go_ret
  exact ⟨_, by first | rfl | (simp [errW_none, errW_some] <;> rfl) | (simp [*, errW_none, errW_some] <;> rfl), onR HO1027, bn HB⟩
 ·replace c3 := Bool.eq_false_iff.mpr c3
  subst c3
  rw [if_neg (show ¬ (false = true) by decide)] at H
  obtain ⟨y1028, hy1028⟩ : ∃ y_ : List (S73), y_ = (([] : List (S73))) := ⟨_, rfl⟩
  replace H : (some y1028) = some r := nh_ hy1028 H
  have Ny1028 := am hy1028
  clear hy1028
  obtain rfl := Option.some.inj H
  go_enter Try.func63, Try.ntmps63
  go_wp2_with (first | ((with_reducible refine gate_dst (N := 1) rfl ?_); refine be_ 1 #[.int .i64 a0_0, .slice A0_1 l0_1.length c0_1] 34 ?_; intro gb1023 hg w10 hbox hb; have BK1023 := am hbox; have GW1023 := am (ge_ hg HB); have GE1023 := am (ge_ hg HB); replace HB := bs HB hb; clear hb hbox hg; obtain ⟨hcz11_0, hcz11_1, hfz11_0, hfz11_1⟩ := c2 BK1023) | ((with_reducible refine gate_callee (f := 91) rfl ?_); refine gl_ (some 4) Try.func91 #[.agg #[.int .i64 a0_0, .slice A0_1 l0_1.length c0_1]] ?_; (with_reducible refine (impl_NetOk.calls k a0_0 _ _ l0_1 false _ ?side1 ?side2 A2.out).mono ?_); (case side1 => exact cb HR0_1 HB); (case side2 => exact HC0_1.out); rintro e w12 ⟨rfl, hb⟩; refine ⟨_, rfl, ?_⟩; replace BK1023 := bb BK1023 hb; replace HB := bs HB hb; (try clear hb); (try clear hi)) | ((with_reducible refine gate_dst (N := 6) rfl ?_); refine Kd.R_lit k73 _ 73 ?hg (N := 6) ?hd (xs := ([] : List (S73))) (inner := []) (ok := fun _ => True) (okp := fun _ => True) ?hr ?hp (fun _ hk => hk) trivial (Below.refl _ _) (Nat.le_refl _) (by simp) ?_; (case hd => rfl); (case hg => rfl); (case hr => first | (go_simp; done) | (go_simp; rfl)); (case hp => exact (Reps.none _ _)); intro v1029 w13 ho14 hb hg_ hnew_; clear hg_ hnew_; (first | rw [← Ny1028.out] at ho14 | (simp only [Int.reduceToNat] at ho14; rw [← Ny1028.out] at ho14)); have HO1030 := am (Kd.R_lower ho14 (below_size (bn HB))); replace BK1023 := bb BK1023 hb; replace HB := bs HB hb; clear hb ho14))
  go_ret
  exact ⟨_, by first | rfl | (simp [errW_none, errW_some] <;> rfl) | (simp [*, errW_none, errW_some] <;> rfl), onR HO1030, bn HB⟩

end Go.Proofs.Ytdlnnjgjfngccaa.F
