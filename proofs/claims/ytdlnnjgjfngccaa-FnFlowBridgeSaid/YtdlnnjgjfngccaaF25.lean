-- Written by oprint.py (wip/tools) over the kit's print program, for this seat.
import Derived.Test.YtdlnnjgjfngccaaF0
import Derived.Test.YtdlnnjgjfngccaaF1
namespace Go.Proofs.Ytdlnnjgjfngccaa.F
open Go.RowKit Go.Proofs.YtdlnnjgjfngccaaW.PrintWords Go.Proofs.YtdlnnjgjfngccaaW.PrintLast Go.Proofs.YtdlnnjgjfngccaaW.PrintMore
attribute [local go_sem] max2_int min2_int max_two min_two max_three min_three max_four min_four   -- for this text's walks alone
set_option linter.unusedVariables false
set_option linter.unusedSimpArgs false

attribute [local go_sem high] eqA73
/-! ### slices_Index_impl_Tie_impl_Tie: function 140 -/
def slices_Index_impl_Tie_impl_Tie.l0 : Nat → List (S73) → Int → Int → Int → Int → Option (Int)
 | 0, _, _, _, _, _ => none
 | k + 1, x0, x7, x8, x280000, x280001 => if x8 < x7 then (if 0 ≤ x8 then (if x8 < (x0.length : Int) then (if (x280000 == ((rd_T73 x0 x8).f0) && (x280001 == ((rd_T73 x0 x8).f1))) = true then (some x8) else (slices_Index_impl_Tie_impl_Tie.l0 k x0 x7 (wrap64 (x8 + 1)) x280000 x280001)) else (none)) else (none)) else (some (-1))
def slices_Index_impl_Tie_impl_Tie.f (k : Nat) (l0 : List (S73)) (a1_0 : Int) (a1_1 : Int) : Option (Int) := slices_Index_impl_Tie_impl_Tie.l0 k l0 (l0.length : Int) 0 a1_0 a1_1
theorem slices_Index_impl_Tie_impl_Tie.mono_l : ∀ k, (∀ y0 y1 y2 y3 y4, LeO (slices_Index_impl_Tie_impl_Tie.l0 k y0 y1 y2 y3 y4) (slices_Index_impl_Tie_impl_Tie.l0 (k + 1) y0 y1 y2 y3 y4))
 | 0 => fun _ _ _ _ _ r h => by simp [slices_Index_impl_Tie_impl_Tie.l0] at h
 | k + 1 => by
  have ih0 := slices_Index_impl_Tie_impl_Tie.mono_l k
  ·intro y0 y1 y2 y3 y4
   unfold slices_Index_impl_Tie_impl_Tie.l0
   exact mo_
theorem slices_Index_impl_Tie_impl_Tie.mono : ∀ a0 a1 a2 k, LeO (slices_Index_impl_Tie_impl_Tie.f k a0 a1 a2) (slices_Index_impl_Tie_impl_Tie.f (k + 1) a0 a1 a2) := by
 intro a0 a1 a2 k
 have ih0 := slices_Index_impl_Tie_impl_Tie.mono_l k
 unfold slices_Index_impl_Tie_impl_Tie.f
 exact mo_
set_option maxHeartbeats 8000000 in
set_option maxRecDepth 100000 in
theorem slices_Index_impl_Tie_impl_Tie.calls (k : Nat) (A0 : Option Addr) (c0 : Nat) (l0 : List (S73)) (a1_0 : Int) (a1_1 : Int) (r : Int) (w : World) (hr0 : Kd.C k73 w A0 l0.length l0) (hc0 : l0.length ≤ c0) (h : slices_Index_impl_Tie_impl_Tie.f k l0 a1_0 a1_1 = some r) :
  Calls Try.prog 140 #[.slice A0 l0.length c0, .agg #[.int .i64 a1_0, .int .i64 a1_1]] w fun e w' => e = .returned (.int .i64 r) ∧ Below w.heap.size w w' := by
 have hu73 := Try.underlying73
 have HR0 := am hr0
 have HC0 := am hc0
 clear hr0 hc0
 have HB := am (Below.refl w.heap.size w)
 have H : (slices_Index_impl_Tie_impl_Tie.l0 k l0 (l0.length : Int) 0 a1_0 a1_1) = some r := h
 clear h
 have H' := am H
 clear H
 go_enter Try.func140, Try.ntmps140
 go_wp2_with (first | ((with_reducible refine gate_dst (N := 3) rfl ?_); refine be_ 3 #[.int .i64 a1_0, .int .i64 a1_1] 73 ?_; intro gb279 hg w3 hbox hb; have BK279 := am hbox; have GW279 := am (ge_ hg HB); have GE279 := am (ge_ hg HB); replace HB := bs HB hb; clear hb hbox hg))
 repeat (go_quiet (first | ((with_reducible refine gate_dst (N := 3) rfl ?_); refine be_ 3 #[.int .i64 a1_0, .int .i64 a1_1] 73 ?_; intro gb279 hg w3 hbox hb; have BK279 := am hbox; have GW279 := am (ge_ hg HB); have GE279 := am (ge_ hg HB); replace HB := bs HB hb; clear hb hbox hg)); try go_wp2_with (first | ((with_reducible refine gate_dst (N := 3) rfl ?_); refine be_ 3 #[.int .i64 a1_0, .int .i64 a1_1] 73 ?_; intro gb279 hg w3 hbox hb; have BK279 := am hbox; have GW279 := am (ge_ hg HB); have GE279 := am (ge_ hg HB); replace HB := bs HB hb; clear hb hbox hg)))
 go_loopg [8] k (fun kq v8 w' => ∃ (x8_1 : Int), v8 = .int .i64 x8_1 ∧ Aside0 (slices_Index_impl_Tie_impl_Tie.l0 kq l0 (l0.length : Int) x8_1 a1_0 a1_1 = some r) ∧ Aside0 (kq ≤ k) ∧ Aside0 (w'.heap[gb279]? = some (.cells #[.int .i64 a1_0, .int .i64 a1_1] 73 (0, 0))) ∧ Aside0 (Below w.heap.size w w'))
 case atStart => exact ⟨(0), (by first | rfl | (simp; done) | (simp [*]; done)), H', ⟨Nat.le_refl _⟩, ⟨bkn BK279⟩, ⟨bn HB⟩⟩
 case round =>
  clear H'
  try clear c1
  try clear p2
  obtain ⟨x8_1, rfl, HA, HK1, BK279, HB⟩ := hrel
  cases gk with
  | zero => exact absurd HA.out (by simp [slices_Index_impl_Tie_impl_Tie.l0])
  | succ k1 =>
   have H := HA.out
   clear HA
   simp only [slices_Index_impl_Tie_impl_Tie.l0] at H
   by_cases c4 : x8_1 < (l0.length : Int)
   ·rw [if_pos c4] at H
    have c4b0 := decide_eq_true c4
    clear c4
    obtain ⟨c5, H⟩ := ig_ H
    have c5b0 := decide_eq_true c5
    clear c5
    obtain ⟨c6, H⟩ := ig_ H
    have c6b0 := decide_eq_true c6
    clear c6
    by_cases c7 : (a1_0 == ((rd_T73 l0 x8_1).f0) && (a1_1 == ((rd_T73 l0 x8_1).f1))) = true
    ·rw [if_pos c7] at H
     have c7b0 : (a1_0 == ((rd_T73 l0 x8_1).f0) && (a1_1 == ((rd_T73 l0 x8_1).f1))) = true := c7
     (try (have c7b1 : decide (a1_0 = ((rd_T73 l0 x8_1).f0) && (a1_1 == ((rd_T73 l0 x8_1).f1))) = true := by simpa using c7))
     (try (have c7b2 : (a1_0 == ((rd_T73 l0 x8_1).f0) && (a1_1 == ((rd_T73 l0 x8_1).f1))) = true := by simpa using c7))
     clear c7
     obtain rfl := Option.some.inj H
     obtain ⟨hcz8_0, hcz8_1, hfz8_0, hfz8_1⟩ := c2 BK279
     have p280 : 0 ≤ (x8_1 : Int) := oa
     have q280 : x8_1 < (l0.length : Int) := oa
     obtain ⟨ad280, e280, hx280_0, hx280_1⟩ := at_T73 HR0.out x8_1 p280 q280
     cases e280
     replace hx280_0 := (HB.out.cell (World.block_lt_of_cell? w _ hx280_0)).trans hx280_0
     replace hx280_1 := (HB.out.cell (World.block_lt_of_cell? w _ hx280_1)).trans hx280_1
     replace p280 := eq_true p280
     replace q280 := eq_true q280
     go_wp2
     repeat (go_quiet (fail); try go_wp2)
     go_ret
     exact ⟨by first | rfl | (simp [errW_none, errW_some] <;> rfl) | (simp [*, errW_none, errW_some] <;> rfl), bn HB⟩
    ·rw [if_neg c7] at H
     have c7b0 : (a1_0 == ((rd_T73 l0 x8_1).f0) && (a1_1 == ((rd_T73 l0 x8_1).f1))) = false := by simpa using c7
     (try (have c7b1 : decide (a1_0 = ((rd_T73 l0 x8_1).f0) && (a1_1 == ((rd_T73 l0 x8_1).f1))) = false := by simpa using c7))
     (try (have c7b2 : (a1_0 == ((rd_T73 l0 x8_1).f0) && (a1_1 == ((rd_T73 l0 x8_1).f1))) = false := by simpa using c7))
     (try (have c7b3 : ¬ (a1_0 = ((rd_T73 l0 x8_1).f0) && (a1_1 == ((rd_T73 l0 x8_1).f1))) := by simpa using c7))
     clear c7
     have H' := am H
     clear H
     obtain ⟨hcz9_0, hcz9_1, hfz9_0, hfz9_1⟩ := c2 BK279
     have p280 : 0 ≤ (x8_1 : Int) := oa
     have q280 : x8_1 < (l0.length : Int) := oa
     obtain ⟨ad280, e280, hx280_0, hx280_1⟩ := at_T73 HR0.out x8_1 p280 q280
     cases e280
     replace hx280_0 := (HB.out.cell (World.block_lt_of_cell? w _ hx280_0)).trans hx280_0
     replace hx280_1 := (HB.out.cell (World.block_lt_of_cell? w _ hx280_1)).trans hx280_1
     replace p280 := eq_true p280
     replace q280 := eq_true q280
     go_wp2
     repeat (go_quiet (fail); try go_wp2)
     go_roundg k1
     case measure => have := HK1.out; omega
     case rel => exact ⟨(wrap64 (x8_1 + 1)), (by first | rfl | (simp; done) | (simp [*]; done)), H', ⟨by have := HK1.out; omega⟩, ⟨bkn BK279⟩, ⟨bn HB⟩⟩
   ·rw [if_neg c4] at H
    have c4b0 := decide_eq_false c4
    clear c4
    obtain rfl := Option.some.inj H
    go_wp2
    repeat (go_quiet (fail); try go_wp2)
    go_ret
    exact ⟨by first | rfl | (simp [errW_none, errW_some] <;> rfl) | (simp [*, errW_none, errW_some] <;> rfl), bn HB⟩

/-! ### slices_Contains_impl_Tie_impl_Tie: function 128 -/
def slices_Contains_impl_Tie_impl_Tie.f (k : Nat) (l0 : List (S73)) (a1_0 : Int) (a1_1 : Int) : Option (Bool) := (slices_Index_impl_Tie_impl_Tie.f k l0 a1_0 a1_1).bind fun t282 => (some (decide (t282 ≥ 0)))
theorem slices_Contains_impl_Tie_impl_Tie.mono : ∀ a0 a1 a2 k, LeO (slices_Contains_impl_Tie_impl_Tie.f k a0 a1 a2) (slices_Contains_impl_Tie_impl_Tie.f (k + 1) a0 a1 a2) := by
 intro a0 a1 a2 k
 unfold slices_Contains_impl_Tie_impl_Tie.f
 have m0_ := @slices_Index_impl_Tie_impl_Tie.mono
 exact mo_
set_option maxHeartbeats 8000000 in
set_option maxRecDepth 100000 in
theorem slices_Contains_impl_Tie_impl_Tie.calls (k : Nat) (A0 : Option Addr) (c0 : Nat) (l0 : List (S73)) (a1_0 : Int) (a1_1 : Int) (r : Bool) (w : World) (hr0 : Kd.C k73 w A0 l0.length l0) (hc0 : l0.length ≤ c0) (h : slices_Contains_impl_Tie_impl_Tie.f k l0 a1_0 a1_1 = some r) :
  Calls Try.prog 128 #[.slice A0 l0.length c0, .agg #[.int .i64 a1_0, .int .i64 a1_1]] w fun e w' => e = .returned (.bool r) ∧ Below w.heap.size w w' := by
 have hu73 := Try.underlying73
 have HR0 := am hr0
 have HC0 := am hc0
 clear hr0 hc0
 have HB := am (Below.refl w.heap.size w)
 have H : ((slices_Index_impl_Tie_impl_Tie.f k l0 a1_0 a1_1).bind fun t282 => (some (decide (t282 ≥ 0)))) = some r := h
 clear h
 replace H := Option.bind_eq_some_iff.mp H
 obtain ⟨t282, A30, H⟩ := H
 (try dsimp only at H)
 have A3 := am A30
 clear A30
 obtain rfl := Option.some.inj H
 go_enter Try.func128, Try.ntmps128
 go_wp2_with (first | ((with_reducible refine gate_dst (N := 3) rfl ?_); refine be_ 3 #[.int .i64 a1_0, .int .i64 a1_1] 73 ?_; intro gb281 hg w4 hbox hb; have BK281 := am hbox; have GW281 := am (ge_ hg HB); have GE281 := am (ge_ hg HB); replace HB := bs HB hb; clear hb hbox hg; obtain ⟨hcz5_0, hcz5_1, hfz5_0, hfz5_1⟩ := c2 BK281) | ((with_reducible refine gate_callee (f := 140) rfl ?_); refine gl_ (some 7) Try.func140 #[.slice A0 l0.length c0, .agg #[.int .i64 a1_0, .int .i64 a1_1]] ?_; (with_reducible refine (slices_Index_impl_Tie_impl_Tie.calls k _ _ l0 a1_0 a1_1 t282 _ ?side1 ?side2 A3.out).mono ?_); (case side1 => exact cb HR0 HB); (case side2 => exact HC0.out); rintro e w6 ⟨rfl, hb⟩; refine ⟨_, rfl, ?_⟩; replace BK281 := bb BK281 hb; replace HB := bs HB hb; (try clear hb); (try clear hi)))
 go_ret
 exact ⟨by first | rfl | (simp [errW_none, errW_some] <;> rfl) | (simp [*, errW_none, errW_some] <;> rfl), bn HB⟩

end Go.Proofs.Ytdlnnjgjfngccaa.F
