-- Written by oprint.py (wip/tools) over the kit's print program, for this seat.
import Derived.Test.YtdlnnjgjfngccaaF0
import Derived.Test.YtdlnnjgjfngccaaF25
namespace Go.Proofs.Ytdlnnjgjfngccaa.F
open Go.RowKit Go.Proofs.YtdlnnjgjfngccaaW.PrintWords Go.Proofs.YtdlnnjgjfngccaaW.PrintLast Go.Proofs.YtdlnnjgjfngccaaW.PrintMore
attribute [local go_sem] max2_int min2_int max_two min_two max_three min_three max_four min_four   -- for this text's walks alone
set_option linter.unusedVariables false
set_option linter.unusedSimpArgs false

/-! ### impl_Net_less: function 106 -/
def impl_Net_less.l0 : Nat → List (S73) → List (S73) → Int → Int → Int → List (S73) → Option (Int × (List (S73)))
 | 0, _, _, _, _, _, _ => none
 | k + 1, x1, x13, x14, x15, x523000, x523001 => if x15 < x14 then (if 0 ≤ x15 then (if x15 < (x13.length : Int) then ((slices_Contains_impl_Tie_impl_Tie.f k x1 ((rd_T73 x13 x15).f0) ((rd_T73 x13 x15).f1)).bind fun t525 => (if t525 = true then (impl_Net_less.l0 k x1 x13 x14 (wrap64 (x15 + 1)) x523000 x523001) else (if x523001.length < 8796093022208 then (impl_Net_less.l0 k x1 x13 x14 (wrap64 (x15 + 1)) x523000 (x523001 ++ [(⟨(rd_T73 x13 x15).f0, (rd_T73 x13 x15).f1⟩ : S73)])) else (none)))) else (none)) else (none)) else (some (x523000, x523001))
def impl_Net_less.f (k : Nat) (a0_0 : Int) (l0_1 : List (S73)) (l1 : List (S73)) : Option (Int × (List (S73))) := impl_Net_less.l0 k l1 l0_1 (l0_1.length : Int) 0 a0_0 (([] : List (S73)))
theorem impl_Net_less.mono_l : ∀ k, (∀ y0 y1 y2 y3 y4 y5, LeO (impl_Net_less.l0 k y0 y1 y2 y3 y4 y5) (impl_Net_less.l0 (k + 1) y0 y1 y2 y3 y4 y5))
 | 0 => fun _ _ _ _ _ _ r h => by simp [impl_Net_less.l0] at h
 | k + 1 => by
  have ih0 := impl_Net_less.mono_l k
  ·intro y0 y1 y2 y3 y4 y5
   unfold impl_Net_less.l0
   have m0_ := @slices_Contains_impl_Tie_impl_Tie.mono
   exact mo_
theorem impl_Net_less.mono : ∀ a0 a1 a2 k, LeO (impl_Net_less.f k a0 a1 a2) (impl_Net_less.f (k + 1) a0 a1 a2) := by
 intro a0 a1 a2 k
 have ih0 := impl_Net_less.mono_l k
 unfold impl_Net_less.f
 have m0_ := @slices_Contains_impl_Tie_impl_Tie.mono
 exact mo_
set_option maxHeartbeats 8000000 in
set_option maxRecDepth 100000 in
theorem impl_Net_less.calls (k : Nat) (a0_0 : Int) (A0_1 : Option Addr) (c0_1 : Nat) (l0_1 : List (S73)) (A1 : Option Addr) (c1 : Nat) (l1 : List (S73)) (r1 : Int) (r2 : List (S73)) (w : World) (hr0_1 : Kd.C k73 w A0_1 l0_1.length l0_1) (hc0_1 : l0_1.length ≤ c0_1) (hr1 : Kd.C k73 w A1 l1.length l1) (hc1 : l1.length ≤ c1) (h : impl_Net_less.f k a0_0 l0_1 l1 = some (r1, r2)) :
  Calls Try.prog 106 #[.agg #[.int .i64 a0_0, .slice A0_1 l0_1.length c0_1], .slice A1 l1.length c1] w fun e w' => ∃ v1_ : Value, e = .returned (.agg #[.int .i64 r1, v1_]) ∧ Kd.R k73 73 w' w.heap.size (fun _ => True) v1_ r2 ∧ Below w.heap.size w w' := by
 have hu34 := Try.underlying34
 have hu73 := Try.underlying73
 have HR0_1 := am hr0_1
 have HC0_1 := am hc0_1
 clear hr0_1 hc0_1
 have HR1 := am hr1
 have HC1 := am hc1
 clear hr1 hc1
 have HB := am (Below.refl w.heap.size w)
 have H : (impl_Net_less.l0 k l1 l0_1 (l0_1.length : Int) 0 a0_0 (([] : List (S73)))) = some (r1, r2) := h
 clear h
 obtain ⟨y519, hy519⟩ : ∃ y_ : List (S73), y_ = (([] : List (S73))) := ⟨_, rfl⟩
 replace H : (impl_Net_less.l0 k l1 l0_1 (l0_1.length : Int) 0 a0_0 y519) = some (r1, r2) := nh_ hy519 H
 have Ny519 := am hy519
 clear hy519
 have H' := am H
 clear H
 go_enter Try.func106, Try.ntmps106
 go_wp2_with (first | ((with_reducible refine gate_dst (N := 2) rfl ?_); refine be_ 2 #[.int .i64 a0_0, .slice A0_1 l0_1.length c0_1] 34 ?_; intro gb517 hg w3 hbox hb; have BK517 := am hbox; have GW517 := am (ge_ hg HB); have GE517 := am (ge_ hg HB); replace HB := bs HB hb; clear hb hbox hg) | ((with_reducible refine gate_dst (N := 4) rfl ?_); refine be_ 4 #[.int .i64 0, .slice none 0 0] 34 ?_; intro gb518 hg w4 hbox hb; have BK518 := am hbox; have GW518 := am (ge_ hg HB); have GE518 := am (ge_ hg HB); replace HB := bs HB hb; obtain ⟨NB517_518, NB518_517⟩ := nb_ hg BK517; replace BK517 := bb BK517 hb; clear hb hbox hg; obtain ⟨hnb5, hnc5⟩ := n2 NB517_518 NB518_517; obtain ⟨hcz6_0, hcz6_1, hfz6_0, hfz6_1⟩ := c2 BK517) | ((with_reducible refine gate_dst (N := 10) rfl ?_); refine Kd.R_lit k73 _ 73 ?hg (N := 10) ?hd (xs := ([] : List (S73))) (inner := []) (ok := fun _ => True) (okp := fun _ => True) ?hr ?hp (fun _ hk => hk) trivial (Below.refl _ _) (Nat.le_refl _) (by simp) ?_; (case hd => rfl); (case hg => rfl); (case hr => first | (go_simp; done) | (go_simp; rfl)); (case hp => exact (Reps.none _ _)); intro v520 w7 ho8 hb hg_ hnew_; clear hg_ hnew_; (first | rw [← Ny519.out] at ho8 | (simp only [Int.reduceToNat] at ho8; rw [← Ny519.out] at ho8)); have HO521 := am (Kd.R_lower ho8 (below_size (bn HB))); replace BK517 := bb BK517 hb; replace BK518 := bb BK518 hb; replace HB := bs HB hb; clear hb ho8; obtain ⟨Ao9, co9, eo9⟩ := Kd.R_slice HO521.out; subst eo9) | ((with_reducible refine gate_dst (N := 5) rfl ?_); refine be_ 5 #[.int .i64 0, .slice none 0 0] 34 ?_; intro gb522 hg w10 hbox hb; replace HO521 := am (Kd.R_below (onR HO521) hb); have BK522 := am hbox; have GW522 := am (ge_ hg HB); have GE522 := am (ge_ hg HB); replace HB := bs HB hb; obtain ⟨NB517_522, NB522_517⟩ := nb_ hg BK517; replace BK517 := bb BK517 hb; obtain ⟨NB518_522, NB522_518⟩ := nb_ hg BK518; replace BK518 := bb BK518 hb; clear hb hbox hg; obtain ⟨hnb11, hnc11⟩ := n2 NB522_517 NB517_522; obtain ⟨hnb12, hnc12⟩ := n2 NB522_518 NB518_522; obtain ⟨hcz13_0, hcz13_1, hfz13_0, hfz13_1⟩ := c2 BK522; obtain ⟨hcz14_0, hcz14_1, hfz14_0, hfz14_1⟩ := c2 BK517))
 go_loopg [15] k (fun kq v15 w' => ∃ (x15_1 : Int) (x523001_1 : List (S73)) (u523001 : Value), v15 = .int .i64 x15_1 ∧ Aside0 (impl_Net_less.l0 kq l1 l0_1 (l0_1.length : Int) x15_1 a0_0 x523001_1 = some (r1, r2)) ∧ Aside0 (kq ≤ k) ∧ Aside0 (Kd.R k73 73 w' w.heap.size (fun _ => True) u523001 x523001_1) ∧ Aside0 (w'.heap[gb517]? = some (.cells #[.int .i64 a0_0, (.slice A0_1 l0_1.length c0_1)] 34 (0, 0))) ∧ Aside0 (w'.heap[gb518]? = some (.cells #[.int .i64 0, (.slice none 0 0)] 34 (0, 0))) ∧ Aside0 (w'.heap[gb522]? = some (.cells #[.int .i64 a0_0, u523001] 34 (0, 0))) ∧ Aside0 (Below w.heap.size w w'))
 case atStart => exact ⟨(0), (y519), (.slice Ao9 y519.length co9), (by first | rfl | (simp; done) | (simp [*]; done)), H', ⟨Nat.le_refl _⟩, ⟨by (with_reducible repeat (first | apply Kd.R_alloc | apply Kd.R_drewN | apply Kd.R_drew)); exact Kd.R_mono (Kd.R_far (p := ⟨gb522, 1, none⟩) (Kd.R_far (p := ⟨gb522, 0, none⟩) (Kd.R_types HO521.out BK522.out (by decide)) (fun _ hk => hk.2) (.int .i64 a0_0)) (fun _ hk => hk.2) (.slice Ao9 y519.length co9)) (fun _ hk => trivial)⟩, ⟨bkn BK517⟩, ⟨bkn BK518⟩, ⟨by (with_reducible repeat (first | refine blk_drewN ?_ _ | refine blk_drew ?_ | refine blk_alloc ?_ _)); refine blk_put (cs := #[.int .i64 a0_0, .slice none 0 0]) ?_ 1 _ rfl; (with_reducible repeat (first | refine blk_drewN ?_ _ | refine blk_drew ?_ | refine blk_alloc ?_ _)); refine blk_put (cs := #[.int .i64 0, .slice none 0 0]) ?_ 0 _ rfl; (with_reducible repeat (first | refine blk_drewN ?_ _ | refine blk_drew ?_ | refine blk_alloc ?_ _)); exact BK522.out⟩, ⟨bn HB⟩⟩
 case round =>
  clear H'
  try clear c1
  try clear p2
  try clear c5
  try clear c10
  try clear c11
  try clear c12
  try clear hcz13_0 hcz13_1 hfz13_0 hfz13_1
  try clear hcz14_0 hcz14_1 hfz14_0 hfz14_1
  try clear hcz6_0 hcz6_1 hfz6_0 hfz6_1
  obtain ⟨x15_1, x523001_1, u523001, rfl, HA, HK1, HO_523001, BK517, BK518, BK522, HB⟩ := hrel
  cases gk with
  | zero => exact absurd HA.out (by simp [impl_Net_less.l0])
  | succ k1 =>
   have H := HA.out
   clear HA
   simp only [impl_Net_less.l0] at H
   by_cases c15 : x15_1 < (l0_1.length : Int)
   ·rw [if_pos c15] at H
    have c15b0 := decide_eq_true c15
    clear c15
    obtain ⟨c16, H⟩ := ig_ H
    have c16b0 := decide_eq_true c16
    clear c16
    obtain ⟨c17, H⟩ := ig_ H
    have c17b0 := decide_eq_true c17
    clear c17
    replace H := Option.bind_eq_some_iff.mp H
    obtain ⟨t525, A180, H⟩ := H
    (try dsimp only at H)
    have A18 := am A180
    clear A180
    by_cases c19 : t525 = true
    ·subst c19
     rw [if_pos rfl] at H
     have H' := am H
     clear H
     have p523 : 0 ≤ (x15_1 : Int) := oa
     have q523 : x15_1 < (l0_1.length : Int) := oa
     obtain ⟨ad523, e523, hx523_0, hx523_1⟩ := at_T73 HR0_1.out x15_1 p523 q523
     cases e523
     replace hx523_0 := (HB.out.cell (World.block_lt_of_cell? w _ hx523_0)).trans hx523_0
     replace hx523_1 := (HB.out.cell (World.block_lt_of_cell? w _ hx523_1)).trans hx523_1
     replace p523 := eq_true p523
     replace q523 := eq_true q523
     go_wp2_with (first | ((with_reducible refine gate_dst (N := 7) rfl ?_); refine be_ 7 #[.int .i64 0, .int .i64 0] 73 ?_; intro gb524 hg w20 hbox hb; replace HO_523001 := am (Kd.R_below (Kd.R_elderB (onR HO_523001) gb524 (Nat.le_of_eq hg.symm)) hb); have BK524 := am hbox; have GW524 := am (ge_ hg HB); have GE524 := am (ge_ hg HB); replace HB := bs HB hb; obtain ⟨NB517_524, NB524_517⟩ := nb_ hg BK517; replace BK517 := bb BK517 hb; obtain ⟨NB518_524, NB524_518⟩ := nb_ hg BK518; replace BK518 := bb BK518 hb; obtain ⟨NB522_524, NB524_522⟩ := nb_ hg BK522; replace BK522 := bb BK522 hb; clear hb hbox hg; obtain ⟨hnb21, hnc21⟩ := n2 NB524_517 NB517_524; obtain ⟨hnb22, hnc22⟩ := n2 NB524_518 NB518_524; obtain ⟨hnb23, hnc23⟩ := n2 NB524_522 NB522_524; obtain ⟨hcz24_0, hcz24_1, hfz24_0, hfz24_1⟩ := c2 BK524) | ((with_reducible refine gate_callee (f := 128) rfl ?_); refine gl_ (some 21) Try.func128 #[.slice A1 l1.length c1, .agg #[.int .i64 ((rd_T73 l0_1 x15_1).f0), .int .i64 ((rd_T73 l0_1 x15_1).f1)]] ?_; (with_reducible refine (slices_Contains_impl_Tie_impl_Tie.calls k1 _ _ l1 ((rd_T73 l0_1 x15_1).f0) ((rd_T73 l0_1 x15_1).f1) true _ ?side1 ?side2 A18.out).mono ?_); (case side1 => exact Kd.C_below HR1.out (bn HB)); (case side2 => exact HC1.out); rintro e w25 ⟨rfl, hb⟩; refine ⟨_, rfl, ?_⟩; replace HO_523001 := am (Kd.R_below (by (with_reducible repeat (first | apply Kd.R_alloc | apply Kd.R_drewN | apply Kd.R_drew)); exact (Kd.R_mono (Kd.R_far (p := ⟨gb524, 1, none⟩) (Kd.R_far (p := ⟨gb524, 0, none⟩) (Kd.R_mono HO_523001.out (fun k_ hk => (⟨hk, hk.2⟩ : _ ∧ k_ ≠ gb524))) (fun _ hk => hk.2) (.int .i64 ((rd_T73 l0_1 x15_1).f0))) (fun _ hk => hk.2) (.int .i64 ((rd_T73 l0_1 x15_1).f1))) (fun _ h_ => h_.1))) hb); replace BK517 := bb BK517 hb; replace BK518 := bb BK518 hb; replace BK522 := bb BK522 hb; replace BK524 := am (blk_below (g := gb524) (o := .cells #[.int .i64 ((rd_T73 l0_1 x15_1).f0), .int .i64 ((rd_T73 l0_1 x15_1).f1)] 73 (0, 0)) (by (with_reducible repeat (first | refine blk_drewN ?_ _ | refine blk_drew ?_ | refine blk_alloc ?_ _)); refine blk_put (cs := #[.int .i64 ((rd_T73 l0_1 x15_1).f0), .int .i64 0]) ?_ 1 _ rfl; (with_reducible repeat (first | refine blk_drewN ?_ _ | refine blk_drew ?_ | refine blk_alloc ?_ _)); refine blk_put (cs := #[.int .i64 0, .int .i64 0]) ?_ 0 _ rfl; (with_reducible repeat (first | refine blk_drewN ?_ _ | refine blk_drew ?_ | refine blk_alloc ?_ _)); exact BK524.out) hb); replace HB := bs HB hb; (try clear hb); (try clear hi)))
     go_roundg k1
     case measure => have := HK1.out; omega
     case rel => exact ⟨(wrap64 (x15_1 + 1)), (x523001_1), (u523001), (by first | rfl | (simp; done) | (simp [*]; done)), H', ⟨by have := HK1.out; omega⟩, ⟨by (with_reducible repeat (first | apply Kd.R_alloc | apply Kd.R_drewN | apply Kd.R_drew)); exact Kd.R_mono HO_523001.out (fun _ hk => trivial)⟩, ⟨bkn BK517⟩, ⟨bkn BK518⟩, ⟨bkn BK522⟩, ⟨bn HB⟩⟩
    ·replace c19 := Bool.eq_false_iff.mpr c19
     subst c19
     rw [if_neg (show ¬ (false = true) by decide)] at H
     obtain ⟨c26, H⟩ := ig_ H
     have LMc26 := am c26
     clear c26
     obtain ⟨y526, hy526⟩ : ∃ y_ : List (S73), y_ = (x523001_1 ++ [(⟨(rd_T73 l0_1 x15_1).f0, (rd_T73 l0_1 x15_1).f1⟩ : S73)]) := ⟨_, rfl⟩
     replace H : (impl_Net_less.l0 k1 l1 l0_1 (l0_1.length : Int) (wrap64 (x15_1 + 1)) a0_0 y526) = some (r1, r2) := nh_ hy526 H
     have Ny526 := am hy526
     clear hy526
     have H' := am H
     clear H
     have p523 : 0 ≤ (x15_1 : Int) := oa
     have q523 : x15_1 < (l0_1.length : Int) := oa
     obtain ⟨ad523, e523, hx523_0, hx523_1⟩ := at_T73 HR0_1.out x15_1 p523 q523
     cases e523
     replace hx523_0 := (HB.out.cell (World.block_lt_of_cell? w _ hx523_0)).trans hx523_0
     replace hx523_1 := (HB.out.cell (World.block_lt_of_cell? w _ hx523_1)).trans hx523_1
     replace p523 := eq_true p523
     replace q523 := eq_true q523
     go_wp2_with (first | ((with_reducible refine gate_dst (N := 7) rfl ?_); refine be_ 7 #[.int .i64 0, .int .i64 0] 73 ?_; intro gb524 hg w27 hbox hb; replace HO_523001 := am (Kd.R_below (Kd.R_elderB (onR HO_523001) gb524 (Nat.le_of_eq hg.symm)) hb); have BK524 := am hbox; have GW524 := am (ge_ hg HB); have GE524 := am (ge_ hg HB); replace HB := bs HB hb; obtain ⟨NB517_524, NB524_517⟩ := nb_ hg BK517; replace BK517 := bb BK517 hb; obtain ⟨NB518_524, NB524_518⟩ := nb_ hg BK518; replace BK518 := bb BK518 hb; obtain ⟨NB522_524, NB524_522⟩ := nb_ hg BK522; replace BK522 := bb BK522 hb; clear hb hbox hg; obtain ⟨hnb28, hnc28⟩ := n2 NB524_517 NB517_524; obtain ⟨hnb29, hnc29⟩ := n2 NB524_518 NB518_524; obtain ⟨hnb30, hnc30⟩ := n2 NB524_522 NB522_524; obtain ⟨hcz31_0, hcz31_1, hfz31_0, hfz31_1⟩ := c2 BK524) | ((with_reducible refine gate_callee (f := 128) rfl ?_); refine gl_ (some 21) Try.func128 #[.slice A1 l1.length c1, .agg #[.int .i64 ((rd_T73 l0_1 x15_1).f0), .int .i64 ((rd_T73 l0_1 x15_1).f1)]] ?_; (with_reducible refine (slices_Contains_impl_Tie_impl_Tie.calls k1 _ _ l1 ((rd_T73 l0_1 x15_1).f0) ((rd_T73 l0_1 x15_1).f1) false _ ?side1 ?side2 A18.out).mono ?_); (case side1 => exact Kd.C_below HR1.out (bn HB)); (case side2 => exact HC1.out); rintro e w32 ⟨rfl, hb⟩; refine ⟨_, rfl, ?_⟩; replace HO_523001 := am (Kd.R_below (by (with_reducible repeat (first | apply Kd.R_alloc | apply Kd.R_drewN | apply Kd.R_drew)); exact (Kd.R_mono (Kd.R_far (p := ⟨gb524, 1, none⟩) (Kd.R_far (p := ⟨gb524, 0, none⟩) (Kd.R_mono HO_523001.out (fun k_ hk => (⟨hk, hk.2⟩ : _ ∧ k_ ≠ gb524))) (fun _ hk => hk.2) (.int .i64 ((rd_T73 l0_1 x15_1).f0))) (fun _ hk => hk.2) (.int .i64 ((rd_T73 l0_1 x15_1).f1))) (fun _ h_ => h_.1))) hb); replace BK517 := bb BK517 hb; replace BK518 := bb BK518 hb; replace BK522 := bb BK522 hb; replace BK524 := am (blk_below (g := gb524) (o := .cells #[.int .i64 ((rd_T73 l0_1 x15_1).f0), .int .i64 ((rd_T73 l0_1 x15_1).f1)] 73 (0, 0)) (by (with_reducible repeat (first | refine blk_drewN ?_ _ | refine blk_drew ?_ | refine blk_alloc ?_ _)); refine blk_put (cs := #[.int .i64 ((rd_T73 l0_1 x15_1).f0), .int .i64 0]) ?_ 1 _ rfl; (with_reducible repeat (first | refine blk_drewN ?_ _ | refine blk_drew ?_ | refine blk_alloc ?_ _)); refine blk_put (cs := #[.int .i64 0, .int .i64 0]) ?_ 0 _ rfl; (with_reducible repeat (first | refine blk_drewN ?_ _ | refine blk_drew ?_ | refine blk_alloc ?_ _)); exact BK524.out) hb); replace HB := bs HB hb; (try clear hb); obtain ⟨hnb33, hnc33⟩ := n2 NB522_517 NB517_522; obtain ⟨hnb34, hnc34⟩ := n2 NB522_518 NB518_522; obtain ⟨hcz35_0, hcz35_1, hfz35_0, hfz35_1⟩ := c2 BK522; have hcz36_0 : w32.cell? ⟨gb524, 0, none⟩ = some (.int .i64 ((rd_T73 l0_1 x15_1).f0)) := (bc BK524 0); have hcz36_1 : w32.cell? ⟨gb524, 1, none⟩ = some (.int .i64 ((rd_T73 l0_1 x15_1).f1)) := (bc BK524 1); have hfz36_0 := blk_frozen BK524.out 0; have hfz36_1 := blk_frozen BK524.out 1) | ((with_reducible refine gate_builtin (b := .append) (xs := #[.tmp 24, .tmp 26]) rfl ?_); at_builtin; refine Kd.R_append k73 (w0 := w) w.heap.size rfl (.tmp 24) (.tmp 26) 32 73 (.agg #[(.int .i64 0), (.int .i64 0)]) 16 rfl Try.underlying32 info73 rfl (by decide) (by omega) u523001 x523001_1 (⟨(rd_T73 l0_1 x15_1).f0, (rd_T73 l0_1 x15_1).f1⟩ : S73) [.int .i64 ((rd_T73 l0_1 x15_1).f0), .int .i64 ((rd_T73 l0_1 x15_1).f1)] (fun k_ => k_ ≠ gb524) (fun _ => False) rfl rfl ?aP (fun _ hk => hk.elim) ?aF ?aO ?aB ?aS ?aL ?_; (case aP => exact k73_mkM _ _ _ (⟨(rd_T73 l0_1 x15_1).f0, (rd_T73 l0_1 x15_1).f1⟩ : S73)); (case aB => exact (bn HB)); (case aF => exact (fun k_ hk => Kd.freshB (bkn BK524) k_ hk)); (case aO => exact (by (with_reducible repeat (first | apply Kd.R_alloc | apply Kd.R_drewN | apply Kd.R_drew)); exact Kd.R_mono HO_523001.out (fun _ hk => hk.2))); (case aS => exact (below_size (bn HB))); (case aL => have := LMc26.out; omega); intro v527 w37 ho hb hg hat; rw [← Ny526.out] at ho; replace BK517 := am (blk_grown (bkn BK517) hg (Kd.R_ne HO_523001.out BK517.out (by decide))); replace BK518 := am (blk_grown (bkn BK518) hg (Kd.R_ne HO_523001.out BK518.out (by decide))); replace BK522 := am (blk_grown (bkn BK522) hg (Kd.R_ne HO_523001.out BK522.out (by decide))); replace BK524 := am (blk_grown (bkn BK524) hg (Kd.R_away HO_523001.out (fun _ hk => hk.2))); replace HB := am hb; have HO528 := am ho; clear HO_523001; clear ho hb hg hat; obtain ⟨Ao38, co38, eo38⟩ := Kd.R_slice HO528.out; subst eo38; obtain ⟨hcz39_0, hcz39_1, hfz39_0, hfz39_1⟩ := c2 BK522))
     go_roundg k1
     case measure => have := HK1.out; omega
     case rel => exact ⟨(wrap64 (x15_1 + 1)), (y526), (.slice Ao38 y526.length co38), (by first | rfl | (simp; done) | (simp [*]; done)), H', ⟨by have := HK1.out; omega⟩, ⟨by (with_reducible repeat (first | apply Kd.R_alloc | apply Kd.R_drewN | apply Kd.R_drew)); exact Kd.R_mono (Kd.R_far (p := ⟨gb522, 1, none⟩) (Kd.R_types HO528.out BK522.out (by decide)) (fun _ hk => hk.2) (.slice Ao38 y526.length co38)) (fun _ hk => trivial)⟩, ⟨bkn BK517⟩, ⟨bkn BK518⟩, ⟨by (with_reducible repeat (first | refine blk_drewN ?_ _ | refine blk_drew ?_ | refine blk_alloc ?_ _)); refine blk_put (cs := #[.int .i64 a0_0, u523001]) ?_ 1 _ rfl; (with_reducible repeat (first | refine blk_drewN ?_ _ | refine blk_drew ?_ | refine blk_alloc ?_ _)); exact BK522.out⟩, ⟨bn HB⟩⟩
   ·rw [if_neg c15] at H
    have c15b0 := decide_eq_false c15
    clear c15
    simp only [Option.some.injEq, Prod.mk.injEq] at H
    obtain ⟨rfl, rfl⟩ := H
    obtain ⟨hnb40, hnc40⟩ := n2 NB522_517 NB517_522
    obtain ⟨hnb41, hnc41⟩ := n2 NB522_518 NB518_522
    obtain ⟨hcz42_0, hcz42_1, hfz42_0, hfz42_1⟩ := c2 BK522
    obtain ⟨hnb43, hnc43⟩ := n2 NB518_517 NB517_518
    obtain ⟨hcz44_0, hcz44_1, hfz44_0, hfz44_1⟩ := c2 BK518
    obtain ⟨Ao45, co45, eo45⟩ := Kd.R_slice HO_523001.out
    subst eo45
    go_wp2
    refine bodyPost_ret (results_cell_row rfl _ _ gb518 34 #[.int .i64 a0_0, .slice Ao45 x523001_1.length co45] (0, 0) _ rfl (by (with_reducible repeat (first | refine blk_drewN ?_ _ | refine blk_drew ?_ | refine blk_alloc ?_ _)); refine blk_put (cs := #[.int .i64 a0_0, .slice none 0 0]) ?_ 1 _ rfl; (with_reducible repeat (first | refine blk_drewN ?_ _ | refine blk_drew ?_ | refine blk_alloc ?_ _)); refine blk_put (cs := #[.int .i64 0, .slice none 0 0]) ?_ 0 _ rfl; (with_reducible repeat (first | refine blk_drewN ?_ _ | refine blk_drew ?_ | refine blk_alloc ?_ _)); exact BK518.out) Try.underlying34 rfl (by kernel_rfl)) rfl ?_
    exact ⟨_, by first | rfl | (simp [errW_none, errW_some] <;> rfl) | (simp [*, errW_none, errW_some] <;> rfl), by (with_reducible repeat (first | apply Kd.R_alloc | apply Kd.R_drewN | apply Kd.R_drew)); exact Kd.R_mono (Kd.R_far (p := ⟨gb518, 1, none⟩) (Kd.R_far (p := ⟨gb518, 0, none⟩) (Kd.R_types HO_523001.out BK518.out (by decide)) (fun _ hk => hk.2) (.int .i64 a0_0)) (fun _ hk => hk.2) (.slice Ao45 x523001_1.length co45)) (fun _ hk => trivial), bn HB⟩

end Go.Proofs.Ytdlnnjgjfngccaa.F
