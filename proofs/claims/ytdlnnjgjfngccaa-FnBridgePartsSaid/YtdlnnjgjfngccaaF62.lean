-- Written by oprint.py (wip/tools) over the kit's print program, for this seat.
import Derived.Test.YtdlnnjgjfngccaaF0
import Derived.Test.YtdlnnjgjfngccaaF31
namespace Go.Proofs.Ytdlnnjgjfngccaa.F
open Go.RowKit Go.Proofs.YtdlnnjgjfngccaaW.PrintWords Go.Proofs.YtdlnnjgjfngccaaW.PrintLast Go.Proofs.YtdlnnjgjfngccaaW.PrintMore
attribute [local go_sem] max2_int min2_int max_two min_two max_three min_three max_four min_four   -- for this text's walks alone
set_option linter.unusedVariables false
set_option linter.unusedSimpArgs false

/-! ### impl_Net_count: function 116 -/
def impl_Net_count.l0 : Nat → Int → List Int → Int → Int → Option (Int)
 | 0, _, _, _, _ => none
 | k + 1, x3, x7, x8, x9 => if x9 < x8 then (if 0 ≤ x9 then (if x9 < (x7.length : Int) then (if x9 = (rd x7 x9) then (impl_Net_count.l0 k (wrap64 (x3 + 1)) x7 x8 (wrap64 (x9 + 1))) else (impl_Net_count.l0 k x3 x7 x8 (wrap64 (x9 + 1)))) else (none)) else (none)) else (some x3)
def impl_Net_count.f (k : Nat) (a0_0 : Int) (l0_1 : List (S73)) : Option (Int) := (impl_Net_parts.f k a0_0 l0_1).bind fun t944 => (impl_Net_count.l0 k 0 t944 (t944.length : Int) 0)
theorem impl_Net_count.mono_l : ∀ k, (∀ y0 y1 y2 y3, LeO (impl_Net_count.l0 k y0 y1 y2 y3) (impl_Net_count.l0 (k + 1) y0 y1 y2 y3))
 | 0 => fun _ _ _ _ r h => by simp [impl_Net_count.l0] at h
 | k + 1 => by
  have ih0 := impl_Net_count.mono_l k
  ·intro y0 y1 y2 y3
   unfold impl_Net_count.l0
   have m0_ := @impl_Net_parts.mono
   exact mo_
theorem impl_Net_count.mono : ∀ a0 a1 k, LeO (impl_Net_count.f k a0 a1) (impl_Net_count.f (k + 1) a0 a1) := by
 intro a0 a1 k
 have ih0 := impl_Net_count.mono_l k
 unfold impl_Net_count.f
 have m0_ := @impl_Net_parts.mono
 exact mo_
set_option maxHeartbeats 8000000 in
set_option maxRecDepth 100000 in
theorem impl_Net_count.calls (k : Nat) (a0_0 : Int) (A0_1 : Option Addr) (c0_1 : Nat) (l0_1 : List (S73)) (r : Int) (w : World) (hr0_1 : Kd.C k73 w A0_1 l0_1.length l0_1) (hc0_1 : l0_1.length ≤ c0_1) (h : impl_Net_count.f k a0_0 l0_1 = some r) :
  Calls Try.prog 116 #[.agg #[.int .i64 a0_0, .slice A0_1 l0_1.length c0_1]] w fun e w' => e = .returned (.int .i64 r) ∧ Below w.heap.size w w' := by
 have hu34 := Try.underlying34
 have HR0_1 := am hr0_1
 have HC0_1 := am hc0_1
 clear hr0_1 hc0_1
 have HB := am (Below.refl w.heap.size w)
 have H : ((impl_Net_parts.f k a0_0 l0_1).bind fun t944 => (impl_Net_count.l0 k 0 t944 (t944.length : Int) 0)) = some r := h
 clear h
 replace H := Option.bind_eq_some_iff.mp H
 obtain ⟨t944, A20, H⟩ := H
 (try dsimp only at H)
 have A2 := am A20
 clear A20
 have H' := am H
 clear H
 go_enter Try.func116, Try.ntmps116
 go_wp2_with (first | ((with_reducible refine gate_dst (N := 1) rfl ?_); refine be_ 1 #[.int .i64 a0_0, .slice A0_1 l0_1.length c0_1] 34 ?_; intro gb943 hg w3 hbox hb; have BK943 := am hbox; have GW943 := am (ge_ hg HB); have GE943 := am (ge_ hg HB); replace HB := bs HB hb; clear hb hbox hg; obtain ⟨hcz4_0, hcz4_1, hfz4_0, hfz4_1⟩ := c2 BK943) | ((with_reducible refine gate_callee (f := 121) rfl ?_); refine gl_ (some 7) Try.func121 #[.agg #[.int .i64 a0_0, .slice A0_1 l0_1.length c0_1]] ?_; (with_reducible refine (impl_Net_parts.calls k a0_0 _ _ l0_1 t944 _ ?side1 ?side2 A2.out).mono ?_); (case side1 => exact cb HR0_1 HB); (case side2 => exact HC0_1.out); rintro e w5 ⟨v945, rfl, ho0, hb⟩; refine ⟨_, rfl, ?_⟩; have HO946 := am (Kd.R_lower ho0 (below_size (bn HB))); replace BK943 := bb BK943 hb; replace HB := bs HB hb; (try clear hb); (try clear ho0); obtain ⟨Ao6, co6, eo6⟩ := Kd.R_slice HO946.out; subst eo6))
 go_loopg [3, 9] k (fun kq v3 v9 w' => ∃ (x3_1 : Int) (x9_1 : Int), v3 = .int .i64 x3_1 ∧ v9 = .int .i64 x9_1 ∧ Aside0 (impl_Net_count.l0 kq x3_1 t944 (t944.length : Int) x9_1 = some r) ∧ Aside0 (kq ≤ k) ∧ Aside0 (Kd.R (Kd.int .i64) 3 w' w.heap.size (fun _ => True) (.slice Ao6 t944.length co6) t944) ∧ Aside0 (w'.heap[gb943]? = some (.cells #[.int .i64 a0_0, (.slice A0_1 l0_1.length c0_1)] 34 (0, 0))) ∧ Aside0 (Below w.heap.size w w'))
 case atStart => exact ⟨(0), (0), (by first | rfl | (simp; done) | (simp [*]; done)), (by first | rfl | (simp; done) | (simp [*]; done)), H', ⟨Nat.le_refl _⟩, ⟨onR HO946⟩, ⟨bkn BK943⟩, ⟨bn HB⟩⟩
 case round =>
  clear H'
  try clear c1
  try clear p2
  try clear hcz4_0 hcz4_1 hfz4_0 hfz4_1
  obtain ⟨x3_1, x9_1, rfl, rfl, HA, HK1, HO_7, BK943, HB⟩ := hrel
  cases gk with
  | zero => exact absurd HA.out (by simp [impl_Net_count.l0])
  | succ k1 =>
   have H := HA.out
   clear HA
   simp only [impl_Net_count.l0] at H
   by_cases c7 : x9_1 < (t944.length : Int)
   ·rw [if_pos c7] at H
    have c7b0 := decide_eq_true c7
    clear c7
    obtain ⟨c8, H⟩ := ig_ H
    have c8b0 := decide_eq_true c8
    clear c8
    obtain ⟨c9, H⟩ := ig_ H
    have c9b0 := decide_eq_true c9
    clear c9
    by_cases c10 : x9_1 = (rd t944 x9_1)
    ·rw [if_pos c10] at H
     have c10b0 : (x9_1 == (rd t944 x9_1)) = true := beq_iff_eq.mpr c10
     have c10b1 : (x9_1 != (rd t944 x9_1)) = false := bne_eq_false_iff_eq.mpr c10
     clear c10
     have H' := am H
     clear H
     have p947 : 0 ≤ (x9_1 : Int) := oa
     have q947 : x9_1 < (t944.length : Int) := oa
     obtain ⟨ad947, e947, hx947_0⟩ := Kd.at_int (Kd.R_reads' HO_7.out).2.2 x9_1 p947 q947
     cases e947
     replace p947 := eq_true p947
     replace q947 := eq_true q947
     go_wp2
     go_roundg k1
     case measure => have := HK1.out; omega
     case rel => exact ⟨(wrap64 (x3_1 + 1)), (wrap64 (x9_1 + 1)), (by first | rfl | (simp; done) | (simp [*]; done)), (by first | rfl | (simp; done) | (simp [*]; done)), H', ⟨by have := HK1.out; omega⟩, ⟨onR HO_7⟩, ⟨bkn BK943⟩, ⟨bn HB⟩⟩
    ·rw [if_neg c10] at H
     have c10b0 : (x9_1 == (rd t944 x9_1)) = false := beq_eq_false_iff_ne.mpr c10
     have c10b1 : (x9_1 != (rd t944 x9_1)) = true := bne_iff_ne.mpr c10
     have H' := am H
     clear H
     have p947 : 0 ≤ (x9_1 : Int) := oa
     have q947 : x9_1 < (t944.length : Int) := oa
     obtain ⟨ad947, e947, hx947_0⟩ := Kd.at_int (Kd.R_reads' HO_7.out).2.2 x9_1 p947 q947
     cases e947
     replace p947 := eq_true p947
     replace q947 := eq_true q947
     go_wp2
     go_roundg k1
     case measure => have := HK1.out; omega
     case rel => exact ⟨(x3_1), (wrap64 (x9_1 + 1)), (by first | rfl | (simp; done) | (simp [*]; done)), (by first | rfl | (simp; done) | (simp [*]; done)), H', ⟨by have := HK1.out; omega⟩, ⟨onR HO_7⟩, ⟨bkn BK943⟩, ⟨bn HB⟩⟩
   ·rw [if_neg c7] at H
    have c7b0 := decide_eq_false c7
    clear c7
    obtain rfl := Option.some.inj H
    go_wp2
    go_ret
    exact ⟨by first | rfl | (simp [errW_none, errW_some] <;> rfl) | (simp [*, errW_none, errW_some] <;> rfl), bn HB⟩

end Go.Proofs.Ytdlnnjgjfngccaa.F
