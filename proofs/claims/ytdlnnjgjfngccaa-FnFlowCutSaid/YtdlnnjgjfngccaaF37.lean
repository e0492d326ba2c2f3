-- Written by oprint.py (wip/tools) over the kit's print program, for this seat.
import Derived.Test.YtdlnnjgjfngccaaF0
import Derived.Test.YtdlnnjgjfngccaaF25
import Derived.Test.YtdlnnjgjfngccaaF8
namespace Go.Proofs.Ytdlnnjgjfngccaa.F
open Go.RowKit Go.Proofs.YtdlnnjgjfngccaaW.PrintWords Go.Proofs.YtdlnnjgjfngccaaW.PrintLast Go.Proofs.YtdlnnjgjfngccaaW.PrintMore
attribute [local go_sem] max2_int min2_int max_two min_two max_three min_three max_four min_four   -- for this text's walks alone
set_option linter.unusedVariables false
set_option linter.unusedSimpArgs false

/-! ### impl_Net_own: function 105 -/
def impl_Net_own.l0 : Nat → List (S73) → List (S73) → Int → Int → Int → List (S73) → Option (Bool)
 | 0, _, _, _, _, _, _ => none
 | k + 1, x1, x7, x8, x9, x513000, x513001 => if x9 < x8 then (if 0 ≤ x9 then (if x9 < (x7.length : Int) then ((slices_Contains_impl_Tie_impl_Tie.f k x513001 ((rd_T73 x7 x9).f0) ((rd_T73 x7 x9).f1)).bind fun t515 => (if t515 = true then (impl_Net_own.l0 k x1 x7 x8 (wrap64 (x9 + 1)) x513000 x513001) else (some false))) else (none)) else (none)) else ((impl_ascending.f k x1).bind fun t516 => (some t516))
def impl_Net_own.f (k : Nat) (a0_0 : Int) (l0_1 : List (S73)) (l1 : List (S73)) : Option (Bool) := impl_Net_own.l0 k l1 l1 (l1.length : Int) 0 a0_0 l0_1
theorem impl_Net_own.mono_l : ∀ k, (∀ y0 y1 y2 y3 y4 y5, LeO (impl_Net_own.l0 k y0 y1 y2 y3 y4 y5) (impl_Net_own.l0 (k + 1) y0 y1 y2 y3 y4 y5))
 | 0 => fun _ _ _ _ _ _ r h => by simp [impl_Net_own.l0] at h
 | k + 1 => by
  have ih0 := impl_Net_own.mono_l k
  ·intro y0 y1 y2 y3 y4 y5
   unfold impl_Net_own.l0
   have m0_ := @impl_ascending.mono
   have m1_ := @slices_Contains_impl_Tie_impl_Tie.mono
   exact mo_
theorem impl_Net_own.mono : ∀ a0 a1 a2 k, LeO (impl_Net_own.f k a0 a1 a2) (impl_Net_own.f (k + 1) a0 a1 a2) := by
 intro a0 a1 a2 k
 have ih0 := impl_Net_own.mono_l k
 unfold impl_Net_own.f
 have m0_ := @impl_ascending.mono
 have m1_ := @slices_Contains_impl_Tie_impl_Tie.mono
 exact mo_
set_option maxHeartbeats 8000000 in
set_option maxRecDepth 100000 in
theorem impl_Net_own.calls (k : Nat) (a0_0 : Int) (A0_1 : Option Addr) (c0_1 : Nat) (l0_1 : List (S73)) (A1 : Option Addr) (c1 : Nat) (l1 : List (S73)) (r : Bool) (w : World) (hr0_1 : Kd.C k73 w A0_1 l0_1.length l0_1) (hc0_1 : l0_1.length ≤ c0_1) (hr1 : Kd.C k73 w A1 l1.length l1) (hc1 : l1.length ≤ c1) (h : impl_Net_own.f k a0_0 l0_1 l1 = some r) :
  Calls Try.prog 105 #[.agg #[.int .i64 a0_0, .slice A0_1 l0_1.length c0_1], .slice A1 l1.length c1] w fun e w' => e = .returned (.bool r) ∧ Below w.heap.size w w' := by
 have hu34 := Try.underlying34
 have hu73 := Try.underlying73
 have HR0_1 := am hr0_1
 have HC0_1 := am hc0_1
 clear hr0_1 hc0_1
 have HR1 := am hr1
 have HC1 := am hc1
 clear hr1 hc1
 have HB := am (Below.refl w.heap.size w)
 have H : (impl_Net_own.l0 k l1 l1 (l1.length : Int) 0 a0_0 l0_1) = some r := h
 clear h
 have H' := am H
 clear H
 go_enter Try.func105, Try.ntmps105
 go_wp2_with (first | ((with_reducible refine gate_dst (N := 2) rfl ?_); refine be_ 2 #[.int .i64 a0_0, .slice A0_1 l0_1.length c0_1] 34 ?_; intro gb512 hg w3 hbox hb; have BK512 := am hbox; have GW512 := am (ge_ hg HB); have GE512 := am (ge_ hg HB); replace HB := bs HB hb; clear hb hbox hg))
 go_loopg [9] k (fun kq v9 w' => ∃ (x9_1 : Int), v9 = .int .i64 x9_1 ∧ Aside0 (impl_Net_own.l0 kq l1 l1 (l1.length : Int) x9_1 a0_0 l0_1 = some r) ∧ Aside0 (kq ≤ k) ∧ Aside0 (w'.heap[gb512]? = some (.cells #[.int .i64 a0_0, (.slice A0_1 l0_1.length c0_1)] 34 (0, 0))) ∧ Aside0 (Below w.heap.size w w'))
 case atStart => exact ⟨(0), (by first | rfl | (simp; done) | (simp [*]; done)), H', ⟨Nat.le_refl _⟩, ⟨bkn BK512⟩, ⟨bn HB⟩⟩
 case round =>
  clear H'
  try clear c1
  try clear p2
  obtain ⟨x9_1, rfl, HA, HK1, BK512, HB⟩ := hrel
  cases gk with
  | zero => exact absurd HA.out (by simp [impl_Net_own.l0])
  | succ k1 =>
   have H := HA.out
   clear HA
   simp only [impl_Net_own.l0] at H
   by_cases c4 : x9_1 < (l1.length : Int)
   ·rw [if_pos c4] at H
    have c4b0 := decide_eq_true c4
    clear c4
    obtain ⟨c5, H⟩ := ig_ H
    have c5b0 := decide_eq_true c5
    clear c5
    obtain ⟨c6, H⟩ := ig_ H
    have c6b0 := decide_eq_true c6
    clear c6
    replace H := Option.bind_eq_some_iff.mp H
    obtain ⟨t515, A70, H⟩ := H
    (try dsimp only at H)
    have A7 := am A70
    clear A70
    by_cases c8 : t515 = true
    ·subst c8
     rw [if_pos rfl] at H
     have H' := am H
     clear H
     have p513 : 0 ≤ (x9_1 : Int) := oa
     have q513 : x9_1 < (l1.length : Int) := oa
     obtain ⟨ad513, e513, hx513_0, hx513_1⟩ := at_T73 HR1.out x9_1 p513 q513
     cases e513
     replace hx513_0 := (HB.out.cell (World.block_lt_of_cell? w _ hx513_0)).trans hx513_0
     replace hx513_1 := (HB.out.cell (World.block_lt_of_cell? w _ hx513_1)).trans hx513_1
     replace p513 := eq_true p513
     replace q513 := eq_true q513
     go_wp2_with (first | ((with_reducible refine gate_dst (N := 6) rfl ?_); refine be_ 6 #[.int .i64 0, .int .i64 0] 73 ?_; intro gb514 hg w9 hbox hb; have BK514 := am hbox; have GW514 := am (ge_ hg HB); have GE514 := am (ge_ hg HB); replace HB := bs HB hb; obtain ⟨NB512_514, NB514_512⟩ := nb_ hg BK512; replace BK512 := bb BK512 hb; clear hb hbox hg; obtain ⟨hnb10, hnc10⟩ := n2 NB514_512 NB512_514; obtain ⟨hcz11_0, hcz11_1, hfz11_0, hfz11_1⟩ := c2 BK514; obtain ⟨hcz12_0, hcz12_1, hfz12_0, hfz12_1⟩ := c2 BK512) | ((with_reducible refine gate_callee (f := 128) rfl ?_); refine gl_ (some 16) Try.func128 #[.slice A0_1 l0_1.length c0_1, .agg #[.int .i64 ((rd_T73 l1 x9_1).f0), .int .i64 ((rd_T73 l1 x9_1).f1)]] ?_; (with_reducible refine (slices_Contains_impl_Tie_impl_Tie.calls k1 _ _ l0_1 ((rd_T73 l1 x9_1).f0) ((rd_T73 l1 x9_1).f1) true _ ?side1 ?side2 A7.out).mono ?_); (case side1 => exact Kd.C_below HR0_1.out (bn HB)); (case side2 => exact HC0_1.out); rintro e w13 ⟨rfl, hb⟩; refine ⟨_, rfl, ?_⟩; replace BK512 := bb BK512 hb; replace BK514 := am (blk_below (g := gb514) (o := .cells #[.int .i64 ((rd_T73 l1 x9_1).f0), .int .i64 ((rd_T73 l1 x9_1).f1)] 73 (0, 0)) (by (with_reducible repeat (first | refine blk_drewN ?_ _ | refine blk_drew ?_ | refine blk_alloc ?_ _)); refine blk_put (cs := #[.int .i64 ((rd_T73 l1 x9_1).f0), .int .i64 0]) ?_ 1 _ rfl; (with_reducible repeat (first | refine blk_drewN ?_ _ | refine blk_drew ?_ | refine blk_alloc ?_ _)); refine blk_put (cs := #[.int .i64 0, .int .i64 0]) ?_ 0 _ rfl; (with_reducible repeat (first | refine blk_drewN ?_ _ | refine blk_drew ?_ | refine blk_alloc ?_ _)); exact BK514.out) hb); replace HB := bs HB hb; (try clear hb); (try clear hi)))
     go_roundg k1
     case measure => have := HK1.out; omega
     case rel => exact ⟨(wrap64 (x9_1 + 1)), (by first | rfl | (simp; done) | (simp [*]; done)), H', ⟨by have := HK1.out; omega⟩, ⟨bkn BK512⟩, ⟨bn HB⟩⟩
    ·replace c8 := Bool.eq_false_iff.mpr c8
     subst c8
     rw [if_neg (show ¬ (false = true) by decide)] at H
     obtain rfl := Option.some.inj H
     have p513 : 0 ≤ (x9_1 : Int) := oa
     have q513 : x9_1 < (l1.length : Int) := oa
     obtain ⟨ad513, e513, hx513_0, hx513_1⟩ := at_T73 HR1.out x9_1 p513 q513
     cases e513
     replace hx513_0 := (HB.out.cell (World.block_lt_of_cell? w _ hx513_0)).trans hx513_0
     replace hx513_1 := (HB.out.cell (World.block_lt_of_cell? w _ hx513_1)).trans hx513_1
     replace p513 := eq_true p513
     replace q513 := eq_true q513
     go_wp2_with (first | ((with_reducible refine gate_dst (N := 6) rfl ?_); refine be_ 6 #[.int .i64 0, .int .i64 0] 73 ?_; intro gb514 hg w14 hbox hb; have BK514 := am hbox; have GW514 := am (ge_ hg HB); have GE514 := am (ge_ hg HB); replace HB := bs HB hb; obtain ⟨NB512_514, NB514_512⟩ := nb_ hg BK512; replace BK512 := bb BK512 hb; clear hb hbox hg; obtain ⟨hnb15, hnc15⟩ := n2 NB514_512 NB512_514; obtain ⟨hcz16_0, hcz16_1, hfz16_0, hfz16_1⟩ := c2 BK514; obtain ⟨hcz17_0, hcz17_1, hfz17_0, hfz17_1⟩ := c2 BK512) | ((with_reducible refine gate_callee (f := 128) rfl ?_); refine gl_ (some 16) Try.func128 #[.slice A0_1 l0_1.length c0_1, .agg #[.int .i64 ((rd_T73 l1 x9_1).f0), .int .i64 ((rd_T73 l1 x9_1).f1)]] ?_; (with_reducible refine (slices_Contains_impl_Tie_impl_Tie.calls k1 _ _ l0_1 ((rd_T73 l1 x9_1).f0) ((rd_T73 l1 x9_1).f1) false _ ?side1 ?side2 A7.out).mono ?_); (case side1 => exact Kd.C_below HR0_1.out (bn HB)); (case side2 => exact HC0_1.out); rintro e w18 ⟨rfl, hb⟩; refine ⟨_, rfl, ?_⟩; replace BK512 := bb BK512 hb; replace BK514 := am (blk_below (g := gb514) (o := .cells #[.int .i64 ((rd_T73 l1 x9_1).f0), .int .i64 ((rd_T73 l1 x9_1).f1)] 73 (0, 0)) (by (with_reducible repeat (first | refine blk_drewN ?_ _ | refine blk_drew ?_ | refine blk_alloc ?_ _)); refine blk_put (cs := #[.int .i64 ((rd_T73 l1 x9_1).f0), .int .i64 0]) ?_ 1 _ rfl; (with_reducible repeat (first | refine blk_drewN ?_ _ | refine blk_drew ?_ | refine blk_alloc ?_ _)); refine blk_put (cs := #[.int .i64 0, .int .i64 0]) ?_ 0 _ rfl; (with_reducible repeat (first | refine blk_drewN ?_ _ | refine blk_drew ?_ | refine blk_alloc ?_ _)); exact BK514.out) hb); replace HB := bs HB hb; (try clear hb); (try clear hi)))
     go_ret
     exact ⟨by first | rfl | (simp [errW_none, errW_some] <;> rfl) | (simp [*, errW_none, errW_some] <;> rfl), bn HB⟩
   ·rw [if_neg c4] at H
    have c4b0 := decide_eq_false c4
    clear c4
    replace H := Option.bind_eq_some_iff.mp H
    obtain ⟨t516, A190, H⟩ := H
    (try dsimp only at H)
    have A19 := am A190
    clear A190
    obtain rfl := Option.some.inj H
    go_wp2_with (first | ((with_reducible refine gate_callee (f := 130) rfl ?_); refine gl_ (some 20) Try.func130 #[.slice A1 l1.length c1] ?_; (with_reducible refine (impl_ascending.calls k1 _ _ l1 t516 _ ?side1 ?side2 A19.out).mono ?_); (case side1 => exact cb HR1 HB); (case side2 => exact HC1.out); rintro e w20 ⟨rfl, hb⟩; refine ⟨_, rfl, ?_⟩; replace BK512 := bb BK512 hb; replace HB := bs HB hb; (try clear hb); (try clear hi)))
    go_ret
    exact ⟨by first | rfl | (simp [errW_none, errW_some] <;> rfl) | (simp [*, errW_none, errW_some] <;> rfl), bn HB⟩

end Go.Proofs.Ytdlnnjgjfngccaa.F
