-- Written by oprint.py (wip/tools) over the kit's print program, for this seat.
import Derived.Test.YtdlnnjgjfngccaaF0
import Derived.Test.YtdlnnjgjfngccaaF14
import Derived.Test.YtdlnnjgjfngccaaF8
import Derived.Test.YtdlnnjgjfngccaaXFlowI
import Derived.Test.YtdlnnjgjfngccaaXFlowS
namespace Go.Proofs.Ytdlnnjgjfngccaa.F
open Go.RowKit Go.Proofs.YtdlnnjgjfngccaaW.PrintWords Go.Proofs.YtdlnnjgjfngccaaW.PrintLast Go.Proofs.YtdlnnjgjfngccaaW.PrintMore
attribute [local go_sem] max2_int min2_int max_two min_two max_three min_three max_four min_four   -- for this text's walks alone
set_option linter.unusedVariables false
set_option linter.unusedSimpArgs false

/-! ### spec_FlowWeak: function 35 -/
mutual
def spec_FlowWeak.j0 : Nat → Bool → Int → List (S73) → Option (Int)
 | 0, _, _, _ => none
 | k + 1, x13, x222000, x222001 => if x13 = true then (some (-1)) else ((spec_FlowCount.f k x222000 x222001 0 1).bind fun t223 => (spec_FlowWeak.l0 k t223 2 x222000 x222001))
def spec_FlowWeak.l0 : Nat → Int → Int → Int → List (S73) → Option (Int)
 | 0, _, _, _, _ => none
 | k + 1, x3, x4, x222000, x222001 => if x4 < x222000 then ((spec_FlowCount.f k x222000 x222001 0 x4).bind fun t224 => (if t224 < x3 then (spec_FlowWeak.l0 k t224 (wrap64 (x4 + 1)) x222000 x222001) else (spec_FlowWeak.l0 k x3 (wrap64 (x4 + 1)) x222000 x222001))) else (some x3)
end
def spec_FlowWeak.f (k : Nat) (a0_0 : Int) (l0_1 : List (S73)) : Option (Int) := (spec_NetOk.f k a0_0 l0_1).bind fun t222 => (if t222 = true then (spec_FlowWeak.j0 k (decide (a0_0 < 2)) a0_0 l0_1) else (spec_FlowWeak.j0 k true a0_0 l0_1))
theorem spec_FlowWeak.mono_l : ∀ k, (∀ y0 y1 y2, LeO (spec_FlowWeak.j0 k y0 y1 y2) (spec_FlowWeak.j0 (k + 1) y0 y1 y2)) ∧ (∀ y0 y1 y2 y3, LeO (spec_FlowWeak.l0 k y0 y1 y2 y3) (spec_FlowWeak.l0 (k + 1) y0 y1 y2 y3))
 | 0 => ⟨fun _ _ _ r h => by simp [spec_FlowWeak.j0] at h, fun _ _ _ _ r h => by simp [spec_FlowWeak.l0] at h⟩
 | k + 1 => by
  obtain ⟨ih0, ih1⟩ := spec_FlowWeak.mono_l k
  refine ⟨?_, ?_⟩
  ·intro y0 y1 y2
   unfold spec_FlowWeak.j0
   have m0_ := @spec_FlowCount.mono
   have m1_ := @spec_NetOk.mono
   exact mo_
  ·intro y0 y1 y2 y3
   unfold spec_FlowWeak.l0
   have m0_ := @spec_FlowCount.mono
   have m1_ := @spec_NetOk.mono
   exact mo_
theorem spec_FlowWeak.mono : ∀ a0 a1 k, LeO (spec_FlowWeak.f k a0 a1) (spec_FlowWeak.f (k + 1) a0 a1) := by
 intro a0 a1 k
 obtain ⟨ih0, ih1⟩ := spec_FlowWeak.mono_l k
 unfold spec_FlowWeak.f
 have m0_ := @spec_FlowCount.mono
 have m1_ := @spec_NetOk.mono
 exact mo_
set_option maxHeartbeats 8000000 in
set_option maxRecDepth 100000 in
theorem spec_FlowWeak.calls (k : Nat) (a0_0 : Int) (A0_1 : Option Addr) (c0_1 : Nat) (l0_1 : List (S73)) (r : Int) (w : World) (hr0_1 : Kd.C k73 w A0_1 l0_1.length l0_1) (hc0_1 : l0_1.length ≤ c0_1) (h : spec_FlowWeak.f k a0_0 l0_1 = some r) :
  Calls Try.prog 35 #[.agg #[.int .i64 a0_0, .slice A0_1 l0_1.length c0_1]] w fun e w' => e = .returned (.int .i64 r) ∧ Below w.heap.size w w' := by
 have hu34 := Try.underlying34
 have HR0_1 := am hr0_1
 have HC0_1 := am hc0_1
 clear hr0_1 hc0_1
 have HB := am (Below.refl w.heap.size w)
 have H : ((spec_NetOk.f k a0_0 l0_1).bind fun t222 => (if t222 = true then (spec_FlowWeak.j0 k (decide (a0_0 < 2)) a0_0 l0_1) else (spec_FlowWeak.j0 k true a0_0 l0_1))) = some r := h
 clear h
 have HC2 := am H
 clear H
 go_enter Try.func35, Try.ntmps35
 go_upto_region 1 with (first | ((with_reducible refine gate_dst (N := 1) rfl ?_); refine be_ 1 #[.int .i64 a0_0, .slice A0_1 l0_1.length c0_1] 34 ?_; intro gb221 hg w3 hbox hb; have BK221 := am hbox; have GW221 := am (ge_ hg HB); have GE221 := am (ge_ hg HB); replace HB := bs HB hb; clear hb hbox hg))
 (try simp only [Act.put, List.setIfInBounds_toArray, List.set_cons_zero, List.set_cons_succ])
 go_cut [13] (fun v13 wc => ∃ (kq : Nat) (x13_1 : Bool), v13 = .bool x13_1 ∧ Aside0 (spec_FlowWeak.j0 kq x13_1 a0_0 l0_1 = some r) ∧ Aside0 (kq ≤ k) ∧ Aside0 (wc.heap[gb221]? = some (.cells #[.int .i64 a0_0, (.slice A0_1 l0_1.length c0_1)] 34 (0, 0))) ∧ Aside0 (Below w.heap.size w wc))
 case first =>
  have H := HC2.out
  clear HC2
  replace H := Option.bind_eq_some_iff.mp H
  obtain ⟨t222, A40, H⟩ := H
  (try dsimp only at H)
  have A4 := am A40
  clear A40
  by_cases c5 : t222 = true
  ·subst c5
   rw [if_pos rfl] at H
   have H' := am H
   clear H
   obtain ⟨hcz6_0, hcz6_1, hfz6_0, hfz6_1⟩ := c2 BK221
   go_wp2_with (first | ((with_reducible refine gate_callee (f := 66) rfl ?_); refine gl_ (some 7) Try.func66 #[.agg #[.int .i64 a0_0, .slice A0_1 l0_1.length c0_1]] ?_; (with_reducible refine (spec_NetOk.calls k a0_0 _ _ l0_1 true _ ?side1 ?side2 A4.out).mono ?_); (case side1 => exact cb HR0_1 HB); (case side2 => exact HC0_1.out); rintro e w7 ⟨rfl, hb⟩; refine ⟨_, rfl, ?_⟩; replace BK221 := bb BK221 hb; replace HB := bs HB hb; (try clear hb); obtain ⟨hcz8_0, hcz8_1, hfz8_0, hfz8_1⟩ := c2 BK221))
   go_meet
   case rel => exact ⟨_, (decide (a0_0 < 2)), (by first | rfl | (simp; done) | (simp [*]; done)), H', ⟨by first | omega | exact Nat.le_refl _⟩, ⟨bkn BK221⟩, ⟨bn HB⟩⟩
  ·replace c5 := Bool.eq_false_iff.mpr c5
   subst c5
   rw [if_neg (show ¬ (false = true) by decide)] at H
   have H' := am H
   clear H
   obtain ⟨hcz9_0, hcz9_1, hfz9_0, hfz9_1⟩ := c2 BK221
   go_wp2_with (first | ((with_reducible refine gate_callee (f := 66) rfl ?_); refine gl_ (some 7) Try.func66 #[.agg #[.int .i64 a0_0, .slice A0_1 l0_1.length c0_1]] ?_; (with_reducible refine (spec_NetOk.calls k a0_0 _ _ l0_1 false _ ?side1 ?side2 A4.out).mono ?_); (case side1 => exact cb HR0_1 HB); (case side2 => exact HC0_1.out); rintro e w10 ⟨rfl, hb⟩; refine ⟨_, rfl, ?_⟩; replace BK221 := bb BK221 hb; replace HB := bs HB hb; (try clear hb); (try clear hi)))
   go_meet
   case rel => exact ⟨_, (true), (by first | rfl | (simp; done) | (simp [*]; done)), H', ⟨by first | omega | exact Nat.le_refl _⟩, ⟨bkn BK221⟩, ⟨bn HB⟩⟩
 case rest =>
  clear HC2
  try clear p2
  try clear c3
  try clear c5
  try clear c6
  try clear hcz6_0 hcz6_1 hfz6_0 hfz6_1
  try clear hcz8_0 hcz8_1 hfz8_0 hfz8_1
  try clear hcz9_0 hcz9_1 hfz9_0 hfz9_1
  obtain ⟨kq, x13_1, rfl, HA, HJ1, BK221, HB⟩ := hcut
  cases kq with
  | zero => exact absurd HA.out (by simp [spec_FlowWeak.j0])
  | succ kj1 =>
   have H := HA.out
   clear HA
   simp only [spec_FlowWeak.j0] at H
   by_cases c11 : x13_1 = true
   ·subst c11
    rw [if_pos rfl] at H
    obtain rfl := Option.some.inj H
    go_wp2
    go_ret
    exact ⟨by first | rfl | (simp [errW_none, errW_some] <;> rfl) | (simp [*, errW_none, errW_some] <;> rfl), bn HB⟩
   ·replace c11 := Bool.eq_false_iff.mpr c11
    subst c11
    rw [if_neg (show ¬ (false = true) by decide)] at H
    replace H := Option.bind_eq_some_iff.mp H
    obtain ⟨t223, A120, H⟩ := H
    (try dsimp only at H)
    have A12 := am A120
    clear A120
    have H' := am H
    clear H
    obtain ⟨hcz13_0, hcz13_1, hfz13_0, hfz13_1⟩ := c2 BK221
    go_wp2_with (first | ((with_reducible refine gate_callee (f := 31) rfl ?_); refine gl_ (some 15) Try.func31 #[.agg #[.int .i64 a0_0, .slice A0_1 l0_1.length c0_1], .int .i64 0, .int .i64 1] ?_; (with_reducible refine (spec_FlowCount.calls kj1 a0_0 _ _ l0_1 0 1 t223 _ ?side1 ?side2 A12.out).mono ?_); (case side1 => exact cb HR0_1 HB); (case side2 => exact HC0_1.out); rintro e w14 ⟨rfl, hb⟩; refine ⟨_, rfl, ?_⟩; replace BK221 := bb BK221 hb; replace HB := bs HB hb; (try clear hb); (try clear hi)))
    go_loopg [3, 4] kj1 (fun kq v3 v4 w' => ∃ (x3_2 : Int) (x4_2 : Int), v3 = .int .i64 x3_2 ∧ v4 = .int .i64 x4_2 ∧ Aside0 (spec_FlowWeak.l0 kq x3_2 x4_2 a0_0 l0_1 = some r) ∧ Aside0 (kq ≤ kj1) ∧ Aside0 (w'.heap[gb221]? = some (.cells #[.int .i64 a0_0, (.slice A0_1 l0_1.length c0_1)] 34 (0, 0))) ∧ Aside0 (Below w.heap.size w w'))
    case atStart => exact ⟨(t223), (2), (by first | rfl | (simp; done) | (simp [*]; done)), (by first | rfl | (simp; done) | (simp [*]; done)), H', ⟨Nat.le_refl _⟩, ⟨bkn BK221⟩, ⟨bn HB⟩⟩
    case round =>
     clear H'
     try clear c1
     try clear p2
     try clear c3
     try clear c5
     try clear c6
     try clear c11
     try clear hcz13_0 hcz13_1 hfz13_0 hfz13_1
     try clear hcz6_0 hcz6_1 hfz6_0 hfz6_1
     try clear hcz8_0 hcz8_1 hfz8_0 hfz8_1
     try clear hcz9_0 hcz9_1 hfz9_0 hfz9_1
     try clear p2
     obtain ⟨x3_2, x4_2, rfl, rfl, HA, HK2, BK221, HB⟩ := hrel
     cases gk with
     | zero => exact absurd HA.out (by simp [spec_FlowWeak.l0])
     | succ k2 =>
      have H := HA.out
      clear HA
      simp only [spec_FlowWeak.l0] at H
      by_cases c15 : x4_2 < a0_0
      ·rw [if_pos c15] at H
       have c15b0 := decide_eq_true c15
       clear c15
       replace H := Option.bind_eq_some_iff.mp H
       obtain ⟨t224, A160, H⟩ := H
       (try dsimp only at H)
       have A16 := am A160
       clear A160
       by_cases c17 : t224 < x3_2
       ·rw [if_pos c17] at H
        have c17b0 := decide_eq_true c17
        clear c17
        have H' := am H
        clear H
        obtain ⟨hcz18_0, hcz18_1, hfz18_0, hfz18_1⟩ := c2 BK221
        go_wp2_with (first | ((with_reducible refine gate_callee (f := 31) rfl ?_); refine gl_ (some 24) Try.func31 #[.agg #[.int .i64 a0_0, .slice A0_1 l0_1.length c0_1], .int .i64 0, .int .i64 x4_2] ?_; (with_reducible refine (spec_FlowCount.calls k2 a0_0 _ _ l0_1 0 x4_2 t224 _ ?side1 ?side2 A16.out).mono ?_); (case side1 => exact cb HR0_1 HB); (case side2 => exact HC0_1.out); rintro e w19 ⟨rfl, hb⟩; refine ⟨_, rfl, ?_⟩; replace BK221 := bb BK221 hb; replace HB := bs HB hb; (try clear hb); (try clear hi)))
        go_roundg k2
        case measure => have := HJ1.out; have := HK2.out; omega
        case rel => exact ⟨(t224), (wrap64 (x4_2 + 1)), (by first | rfl | (simp; done) | (simp [*]; done)), (by first | rfl | (simp; done) | (simp [*]; done)), H', ⟨by have := HJ1.out; have := HK2.out; omega⟩, ⟨bkn BK221⟩, ⟨bn HB⟩⟩
       ·rw [if_neg c17] at H
        have c17b0 := decide_eq_false c17
        clear c17
        have H' := am H
        clear H
        obtain ⟨hcz20_0, hcz20_1, hfz20_0, hfz20_1⟩ := c2 BK221
        go_wp2_with (first | ((with_reducible refine gate_callee (f := 31) rfl ?_); refine gl_ (some 24) Try.func31 #[.agg #[.int .i64 a0_0, .slice A0_1 l0_1.length c0_1], .int .i64 0, .int .i64 x4_2] ?_; (with_reducible refine (spec_FlowCount.calls k2 a0_0 _ _ l0_1 0 x4_2 t224 _ ?side1 ?side2 A16.out).mono ?_); (case side1 => exact cb HR0_1 HB); (case side2 => exact HC0_1.out); rintro e w21 ⟨rfl, hb⟩; refine ⟨_, rfl, ?_⟩; replace BK221 := bb BK221 hb; replace HB := bs HB hb; (try clear hb); (try clear hi)))
        go_roundg k2
        case measure => have := HJ1.out; have := HK2.out; omega
        case rel => exact ⟨(x3_2), (wrap64 (x4_2 + 1)), (by first | rfl | (simp; done) | (simp [*]; done)), (by first | rfl | (simp; done) | (simp [*]; done)), H', ⟨by have := HJ1.out; have := HK2.out; omega⟩, ⟨bkn BK221⟩, ⟨bn HB⟩⟩
      ·rw [if_neg c15] at H
       have c15b0 := decide_eq_false c15
       clear c15
       obtain rfl := Option.some.inj H
       obtain ⟨hcz22_0, hcz22_1, hfz22_0, hfz22_1⟩ := c2 BK221
       go_wp2
       go_ret
       exact ⟨by first | rfl | (simp [errW_none, errW_some] <;> rfl) | (simp [*, errW_none, errW_some] <;> rfl), bn HB⟩

/-! ### impl_FlowWeak: function 36 -/
mutual
def impl_FlowWeak.j0 : Nat → Bool → Int → List (S73) → Option (Int)
 | 0, _, _, _ => none
 | k + 1, x12, x226000, x226001 => if x12 = true then (some (-1)) else ((impl_Net_flow.f k x226000 x226001 0 1).bind fun t227 => (impl_FlowWeak.l0 k t227 1 x226000 x226001))
def impl_FlowWeak.l0 : Nat → Int → Int → Int → List (S73) → Option (Int)
 | 0, _, _, _, _ => none
 | k + 1, x3, x4, x226000, x226001 => if x4 < x226000 then ((impl_Net_flow.f k x226000 x226001 0 x4).bind fun t228 => (impl_FlowWeak.l0 k (mn x3 t228) (wrap64 (x4 + 1)) x226000 x226001)) else (some x3)
end
def impl_FlowWeak.f (k : Nat) (a0_0 : Int) (l0_1 : List (S73)) : Option (Int) := (impl_NetOk.f k a0_0 l0_1).bind fun t226 => (if t226 = true then (impl_FlowWeak.j0 k (decide (a0_0 < 2)) a0_0 l0_1) else (impl_FlowWeak.j0 k true a0_0 l0_1))
theorem impl_FlowWeak.mono_l : ∀ k, (∀ y0 y1 y2, LeO (impl_FlowWeak.j0 k y0 y1 y2) (impl_FlowWeak.j0 (k + 1) y0 y1 y2)) ∧ (∀ y0 y1 y2 y3, LeO (impl_FlowWeak.l0 k y0 y1 y2 y3) (impl_FlowWeak.l0 (k + 1) y0 y1 y2 y3))
 | 0 => ⟨fun _ _ _ r h => by simp [impl_FlowWeak.j0] at h, fun _ _ _ _ r h => by simp [impl_FlowWeak.l0] at h⟩
 | k + 1 => by
  obtain ⟨ih0, ih1⟩ := impl_FlowWeak.mono_l k
  refine ⟨?_, ?_⟩
  ·intro y0 y1 y2
   unfold impl_FlowWeak.j0
   have m0_ := @impl_NetOk.mono
   have m1_ := @impl_Net_flow.mono
   exact mo_
  ·intro y0 y1 y2 y3
   unfold impl_FlowWeak.l0
   have m0_ := @impl_NetOk.mono
   have m1_ := @impl_Net_flow.mono
   exact mo_
theorem impl_FlowWeak.mono : ∀ a0 a1 k, LeO (impl_FlowWeak.f k a0 a1) (impl_FlowWeak.f (k + 1) a0 a1) := by
 intro a0 a1 k
 obtain ⟨ih0, ih1⟩ := impl_FlowWeak.mono_l k
 unfold impl_FlowWeak.f
 have m0_ := @impl_NetOk.mono
 have m1_ := @impl_Net_flow.mono
 exact mo_
set_option maxHeartbeats 8000000 in
set_option maxRecDepth 100000 in
theorem impl_FlowWeak.calls (k : Nat) (a0_0 : Int) (A0_1 : Option Addr) (c0_1 : Nat) (l0_1 : List (S73)) (r : Int) (w : World) (hr0_1 : Kd.C k73 w A0_1 l0_1.length l0_1) (hc0_1 : l0_1.length ≤ c0_1) (h : impl_FlowWeak.f k a0_0 l0_1 = some r) :
  Calls Try.prog 36 #[.agg #[.int .i64 a0_0, .slice A0_1 l0_1.length c0_1]] w fun e w' => e = .returned (.int .i64 r) ∧ Below w.heap.size w w' := by
 have hu34 := Try.underlying34
 have HR0_1 := am hr0_1
 have HC0_1 := am hc0_1
 clear hr0_1 hc0_1
 have HB := am (Below.refl w.heap.size w)
 have H : ((impl_NetOk.f k a0_0 l0_1).bind fun t226 => (if t226 = true then (impl_FlowWeak.j0 k (decide (a0_0 < 2)) a0_0 l0_1) else (impl_FlowWeak.j0 k true a0_0 l0_1))) = some r := h
 clear h
 have HC2 := am H
 clear H
 go_enter Try.func36, Try.ntmps36
 go_upto_region 1 with (first | ((with_reducible refine gate_dst (N := 1) rfl ?_); refine be_ 1 #[.int .i64 a0_0, .slice A0_1 l0_1.length c0_1] 34 ?_; intro gb225 hg w3 hbox hb; have BK225 := am hbox; have GW225 := am (ge_ hg HB); have GE225 := am (ge_ hg HB); replace HB := bs HB hb; clear hb hbox hg))
 (try simp only [Act.put, List.setIfInBounds_toArray, List.set_cons_zero, List.set_cons_succ])
 go_cut [12] (fun v12 wc => ∃ (kq : Nat) (x12_1 : Bool), v12 = .bool x12_1 ∧ Aside0 (impl_FlowWeak.j0 kq x12_1 a0_0 l0_1 = some r) ∧ Aside0 (kq ≤ k) ∧ Aside0 (wc.heap[gb225]? = some (.cells #[.int .i64 a0_0, (.slice A0_1 l0_1.length c0_1)] 34 (0, 0))) ∧ Aside0 (Below w.heap.size w wc))
 case first =>
  have H := HC2.out
  clear HC2
  replace H := Option.bind_eq_some_iff.mp H
  obtain ⟨t226, A40, H⟩ := H
  (try dsimp only at H)
  have A4 := am A40
  clear A40
  by_cases c5 : t226 = true
  ·subst c5
   rw [if_pos rfl] at H
   have H' := am H
   clear H
   obtain ⟨hcz6_0, hcz6_1, hfz6_0, hfz6_1⟩ := c2 BK225
   go_wp2_with (first | ((with_reducible refine gate_callee (f := 91) rfl ?_); refine gl_ (some 6) Try.func91 #[.agg #[.int .i64 a0_0, .slice A0_1 l0_1.length c0_1]] ?_; (with_reducible refine (impl_NetOk.calls k a0_0 _ _ l0_1 true _ ?side1 ?side2 A4.out).mono ?_); (case side1 => exact cb HR0_1 HB); (case side2 => exact HC0_1.out); rintro e w7 ⟨rfl, hb⟩; refine ⟨_, rfl, ?_⟩; replace BK225 := bb BK225 hb; replace HB := bs HB hb; (try clear hb); obtain ⟨hcz8_0, hcz8_1, hfz8_0, hfz8_1⟩ := c2 BK225))
   go_meet
   case rel => exact ⟨_, (decide (a0_0 < 2)), (by first | rfl | (simp; done) | (simp [*]; done)), H', ⟨by first | omega | exact Nat.le_refl _⟩, ⟨bkn BK225⟩, ⟨bn HB⟩⟩
  ·replace c5 := Bool.eq_false_iff.mpr c5
   subst c5
   rw [if_neg (show ¬ (false = true) by decide)] at H
   have H' := am H
   clear H
   obtain ⟨hcz9_0, hcz9_1, hfz9_0, hfz9_1⟩ := c2 BK225
   go_wp2_with (first | ((with_reducible refine gate_callee (f := 91) rfl ?_); refine gl_ (some 6) Try.func91 #[.agg #[.int .i64 a0_0, .slice A0_1 l0_1.length c0_1]] ?_; (with_reducible refine (impl_NetOk.calls k a0_0 _ _ l0_1 false _ ?side1 ?side2 A4.out).mono ?_); (case side1 => exact cb HR0_1 HB); (case side2 => exact HC0_1.out); rintro e w10 ⟨rfl, hb⟩; refine ⟨_, rfl, ?_⟩; replace BK225 := bb BK225 hb; replace HB := bs HB hb; (try clear hb); (try clear hi)))
   go_meet
   case rel => exact ⟨_, (true), (by first | rfl | (simp; done) | (simp [*]; done)), H', ⟨by first | omega | exact Nat.le_refl _⟩, ⟨bkn BK225⟩, ⟨bn HB⟩⟩
 case rest =>
  clear HC2
  try clear p2
  try clear c3
  try clear c5
  try clear c9
  try clear hcz6_0 hcz6_1 hfz6_0 hfz6_1
  try clear hcz8_0 hcz8_1 hfz8_0 hfz8_1
  try clear hcz9_0 hcz9_1 hfz9_0 hfz9_1
  obtain ⟨kq, x12_1, rfl, HA, HJ1, BK225, HB⟩ := hcut
  cases kq with
  | zero => exact absurd HA.out (by simp [impl_FlowWeak.j0])
  | succ kj1 =>
   have H := HA.out
   clear HA
   simp only [impl_FlowWeak.j0] at H
   by_cases c11 : x12_1 = true
   ·subst c11
    rw [if_pos rfl] at H
    obtain rfl := Option.some.inj H
    go_wp2
    go_ret
    exact ⟨by first | rfl | (simp [errW_none, errW_some] <;> rfl) | (simp [*, errW_none, errW_some] <;> rfl), bn HB⟩
   ·replace c11 := Bool.eq_false_iff.mpr c11
    subst c11
    rw [if_neg (show ¬ (false = true) by decide)] at H
    replace H := Option.bind_eq_some_iff.mp H
    obtain ⟨t227, A120, H⟩ := H
    (try dsimp only at H)
    have A12 := am A120
    clear A120
    have H' := am H
    clear H
    obtain ⟨hcz13_0, hcz13_1, hfz13_0, hfz13_1⟩ := c2 BK225
    go_wp2_with (first | ((with_reducible refine gate_callee (f := 90) rfl ?_); refine gl_ (some 14) Try.func90 #[.agg #[.int .i64 a0_0, .slice A0_1 l0_1.length c0_1], .int .i64 0, .int .i64 1] ?_; (with_reducible refine (impl_Net_flow.calls kj1 a0_0 _ _ l0_1 0 1 t227 _ ?side1 ?side2 A12.out).mono ?_); (case side1 => exact cb HR0_1 HB); (case side2 => exact HC0_1.out); rintro e w14 ⟨rfl, hb⟩; refine ⟨_, rfl, ?_⟩; replace BK225 := bb BK225 hb; replace HB := bs HB hb; (try clear hb); (try clear hi)))
    go_loopg [3, 4] kj1 (fun kq v3 v4 w' => ∃ (x3_2 : Int) (x4_2 : Int), v3 = .int .i64 x3_2 ∧ v4 = .int .i64 x4_2 ∧ Aside0 (impl_FlowWeak.l0 kq x3_2 x4_2 a0_0 l0_1 = some r) ∧ Aside0 (kq ≤ kj1) ∧ Aside0 (w'.heap[gb225]? = some (.cells #[.int .i64 a0_0, (.slice A0_1 l0_1.length c0_1)] 34 (0, 0))) ∧ Aside0 (Below w.heap.size w w'))
    case atStart => exact ⟨(t227), (1), (by first | rfl | (simp; done) | (simp [*]; done)), (by first | rfl | (simp; done) | (simp [*]; done)), H', ⟨Nat.le_refl _⟩, ⟨bkn BK225⟩, ⟨bn HB⟩⟩
    case round =>
     clear H'
     try clear c1
     try clear p2
     try clear c3
     try clear c5
     try clear c9
     try clear c11
     try clear hcz13_0 hcz13_1 hfz13_0 hfz13_1
     try clear hcz6_0 hcz6_1 hfz6_0 hfz6_1
     try clear hcz8_0 hcz8_1 hfz8_0 hfz8_1
     try clear hcz9_0 hcz9_1 hfz9_0 hfz9_1
     try clear p2
     obtain ⟨x3_2, x4_2, rfl, rfl, HA, HK2, BK225, HB⟩ := hrel
     cases gk with
     | zero => exact absurd HA.out (by simp [impl_FlowWeak.l0])
     | succ k2 =>
      have H := HA.out
      clear HA
      simp only [impl_FlowWeak.l0] at H
      by_cases c15 : x4_2 < a0_0
      ·rw [if_pos c15] at H
       have c15b0 := decide_eq_true c15
       clear c15
       replace H := Option.bind_eq_some_iff.mp H
       obtain ⟨t228, A160, H⟩ := H
       (try dsimp only at H)
       have A16 := am A160
       clear A160
       obtain ⟨ji17, hji17⟩ : ∃ j_ : Int, (mn x3_2 t228) = j_ := ⟨_, rfl⟩
       replace H : (impl_FlowWeak.l0 k2 ji17 (wrap64 (x4_2 + 1)) a0_0 l0_1) = some r := by first | (rw [hji17] at H; exact H) | (simp only [hji17] at H ⊢; exact H)
       (try rw [hji17] at A16)
       have hji17_ : (if t228 < x3_2 then t228 else x3_2) = ji17 := hji17
       have H' := am H
       clear H
       obtain ⟨hcz18_0, hcz18_1, hfz18_0, hfz18_1⟩ := c2 BK225
       go_wp2_with (first | ((with_reducible refine gate_callee (f := 90) rfl ?_); refine gl_ (some 24) Try.func90 #[.agg #[.int .i64 a0_0, .slice A0_1 l0_1.length c0_1], .int .i64 0, .int .i64 x4_2] ?_; (with_reducible refine (impl_Net_flow.calls k2 a0_0 _ _ l0_1 0 x4_2 t228 _ ?side1 ?side2 A16.out).mono ?_); (case side1 => exact cb HR0_1 HB); (case side2 => exact HC0_1.out); rintro e w19 ⟨rfl, hb⟩; refine ⟨_, rfl, ?_⟩; replace BK225 := bb BK225 hb; replace HB := bs HB hb; (try clear hb); (try clear hi)))
       go_roundg k2
       case measure => have := HJ1.out; have := HK2.out; omega
       case rel => exact ⟨(ji17), (wrap64 (x4_2 + 1)), (by first | rfl | (simp; done) | (simp only [← hji17] <;> (first | rfl | simp)) | (simp [*]; done)), (by first | rfl | (simp; done) | (simp [*]; done)), H', ⟨by have := HJ1.out; have := HK2.out; omega⟩, ⟨bkn BK225⟩, ⟨bn HB⟩⟩
      ·rw [if_neg c15] at H
       have c15b0 := decide_eq_false c15
       clear c15
       obtain rfl := Option.some.inj H
       obtain ⟨hcz20_0, hcz20_1, hfz20_0, hfz20_1⟩ := c2 BK225
       go_wp2
       go_ret
       exact ⟨by first | rfl | (simp [errW_none, errW_some] <;> rfl) | (simp [*, errW_none, errW_some] <;> rfl), bn HB⟩

end Go.Proofs.Ytdlnnjgjfngccaa.F
