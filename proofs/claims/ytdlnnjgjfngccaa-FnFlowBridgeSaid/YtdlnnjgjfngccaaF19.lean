-- Written by oprint.py (wip/tools) over the kit's print program, for this seat.
import Derived.Test.YtdlnnjgjfngccaaF0
import Derived.Test.YtdlnnjgjfngccaaF1
namespace Go.Proofs.Ytdlnnjgjfngccaa.F
open Go.RowKit Go.Proofs.YtdlnnjgjfngccaaW.PrintWords Go.Proofs.YtdlnnjgjfngccaaW.PrintLast Go.Proofs.YtdlnnjgjfngccaaW.PrintMore
attribute [local go_sem] max2_int min2_int max_two min_two max_three min_three max_four min_four   -- for this text's walks alone
set_option linter.unusedVariables false
set_option linter.unusedSimpArgs false

attribute [local go_sem high] eqA73
/-! ### spec_l1Tie: function 135 -/
def spec_l1Tie.f (a0 : Int) (a1 : Int) : Option (Int × Int) := if a0 < a1 then (some (a0, a1)) else (some (a1, a0))
set_option maxHeartbeats 8000000 in
set_option maxRecDepth 100000 in
theorem spec_l1Tie.calls (a0 : Int) (a1 : Int) (r1 : Int) (r2 : Int) (w : World) (h : spec_l1Tie.f a0 a1 = some (r1, r2)) :
  Calls Try.prog 135 #[.int .i64 a0, .int .i64 a1] w fun e w' => e = .returned (.agg #[.int .i64 r1, .int .i64 r2]) ∧ Below w.heap.size w w' := by
 have hu73 := Try.underlying73
 have HB := am (Below.refl w.heap.size w)
 have H : (if a0 < a1 then (some (a0, a1)) else (some (a1, a0))) = some (r1, r2) := h
 clear h
 by_cases c3 : a0 < a1
 ·rw [if_pos c3] at H
  have c3b0 := decide_eq_true c3
  clear c3
  simp only [Option.some.injEq, Prod.mk.injEq] at H
  obtain ⟨rfl, rfl⟩ := H
  go_enter Try.func135, Try.ntmps135
  go_wp2_with (first | ((with_reducible refine gate_dst (N := 4) rfl ?_); refine be_ 4 #[.int .i64 0, .int .i64 0] 73 ?_; intro gb251 hg w4 hbox hb; have BK251 := am hbox; have GW251 := am (ge_ hg HB); have GE251 := am (ge_ hg HB); replace HB := bs HB hb; clear hb hbox hg; obtain ⟨hcz5_0, hcz5_1, hfz5_0, hfz5_1⟩ := c2 BK251))
  refine bodyPost_ret (results_cell_row rfl _ _ gb251 73 #[.int .i64 a0, .int .i64 a1] (0, 0) _ rfl (by (with_reducible repeat (first | refine blk_drewN ?_ _ | refine blk_drew ?_ | refine blk_alloc ?_ _)); refine blk_put (cs := #[.int .i64 a0, .int .i64 0]) ?_ 1 _ rfl; (with_reducible repeat (first | refine blk_drewN ?_ _ | refine blk_drew ?_ | refine blk_alloc ?_ _)); refine blk_put (cs := #[.int .i64 0, .int .i64 0]) ?_ 0 _ rfl; (with_reducible repeat (first | refine blk_drewN ?_ _ | refine blk_drew ?_ | refine blk_alloc ?_ _)); exact BK251.out) Try.underlying73 rfl (by kernel_rfl)) rfl ?_
  exact ⟨by first | rfl | (simp [errW_none, errW_some] <;> rfl) | (simp [*, errW_none, errW_some] <;> rfl), bn HB⟩
 ·rw [if_neg c3] at H
  have c3b0 := decide_eq_false c3
  clear c3
  simp only [Option.some.injEq, Prod.mk.injEq] at H
  obtain ⟨rfl, rfl⟩ := H
  go_enter Try.func135, Try.ntmps135
  go_wp2_with (first | ((with_reducible refine gate_dst (N := 4) rfl ?_); refine be_ 4 #[.int .i64 0, .int .i64 0] 73 ?_; intro gb251 hg w6 hbox hb; have BK251 := am hbox; have GW251 := am (ge_ hg HB); have GE251 := am (ge_ hg HB); replace HB := bs HB hb; clear hb hbox hg; obtain ⟨hcz7_0, hcz7_1, hfz7_0, hfz7_1⟩ := c2 BK251))
  refine bodyPost_ret (results_cell_row rfl _ _ gb251 73 #[.int .i64 a1, .int .i64 a0] (0, 0) _ rfl (by (with_reducible repeat (first | refine blk_drewN ?_ _ | refine blk_drew ?_ | refine blk_alloc ?_ _)); refine blk_put (cs := #[.int .i64 a1, .int .i64 0]) ?_ 1 _ rfl; (with_reducible repeat (first | refine blk_drewN ?_ _ | refine blk_drew ?_ | refine blk_alloc ?_ _)); refine blk_put (cs := #[.int .i64 0, .int .i64 0]) ?_ 0 _ rfl; (with_reducible repeat (first | refine blk_drewN ?_ _ | refine blk_drew ?_ | refine blk_alloc ?_ _)); exact BK251.out) Try.underlying73 rfl (by kernel_rfl)) rfl ?_
  exact ⟨by first | rfl | (simp [errW_none, errW_some] <;> rfl) | (simp [*, errW_none, errW_some] <;> rfl), bn HB⟩

/-! ### spec_l1Has: function 129 -/
def spec_l1Has.l0 : Nat → Int → Int → Int → Int → List (S73) → Option (Bool)
 | 0, _, _, _, _, _ => none
 | k + 1, x1, x2, x7, x253000, x253001 => if x7 < (x253001.length : Int) then (if 0 ≤ x7 then ((spec_l1Tie.f x1 x2).bind fun bt254 => (if (((rd_T73 x253001 x7).f0) == bt254.1 && (((rd_T73 x253001 x7).f1) == bt254.2)) = true then (some true) else (spec_l1Has.l0 k x1 x2 (wrap64 (x7 + 1)) x253000 x253001))) else (none)) else (some false)
def spec_l1Has.f (k : Nat) (a0_0 : Int) (l0_1 : List (S73)) (a1 : Int) (a2 : Int) : Option (Bool) := spec_l1Has.l0 k a1 a2 0 a0_0 l0_1
theorem spec_l1Has.mono_l : ∀ k, (∀ y0 y1 y2 y3 y4, LeO (spec_l1Has.l0 k y0 y1 y2 y3 y4) (spec_l1Has.l0 (k + 1) y0 y1 y2 y3 y4))
 | 0 => fun _ _ _ _ _ r h => by simp [spec_l1Has.l0] at h
 | k + 1 => by
  have ih0 := spec_l1Has.mono_l k
  ·intro y0 y1 y2 y3 y4
   unfold spec_l1Has.l0
   exact mo_
theorem spec_l1Has.mono : ∀ a0 a1 a2 a3 k, LeO (spec_l1Has.f k a0 a1 a2 a3) (spec_l1Has.f (k + 1) a0 a1 a2 a3) := by
 intro a0 a1 a2 a3 k
 have ih0 := spec_l1Has.mono_l k
 unfold spec_l1Has.f
 exact mo_
def spec_l1Has.T4 : Bool × List (List Nat × List Nat) := (true, [([], []), ([0], [0]), ([], []), ([1, 2], [1, 2]), ([3], [3]), ([], []), ([], []), ([5, 6], [5, 6]), ([4, 7], [4, 7])])
def spec_l1Has.B4 : List Nat := [0, 1, 0, 7, 15, 0, 0, 96, 255]
theorem spec_l1Has.tab4 : rtab .any (opsOf Try.f129 4) = spec_l1Has.T4 := by kernel_rfl
theorem spec_l1Has.bits4 : waitsOk spec_l1Has.T4.2 spec_l1Has.B4 = true := by kernel_rfl
set_option maxHeartbeats 8000000 in
set_option maxRecDepth 100000 in
theorem spec_l1Has.calls (k : Nat) (a0_0 : Int) (A0_1 : Option Addr) (c0_1 : Nat) (l0_1 : List (S73)) (a1 : Int) (a2 : Int) (r : Bool) (w : World) (hr0_1 : Kd.C k73 w A0_1 l0_1.length l0_1) (hc0_1 : l0_1.length ≤ c0_1) (h : spec_l1Has.f k a0_0 l0_1 a1 a2 = some r) :
  Calls Try.prog 129 #[.agg #[.int .i64 a0_0, .slice A0_1 l0_1.length c0_1], .int .i64 a1, .int .i64 a2] w fun e w' => e = .returned (.bool r) ∧ Below w.heap.size w w' := by
 have hu34 := Try.underlying34
 have hu73 := Try.underlying73
 have HR0_1 := am hr0_1
 have HC0_1 := am hc0_1
 clear hr0_1 hc0_1
 have HB := am (Below.refl w.heap.size w)
 have H : (spec_l1Has.l0 k a1 a2 0 a0_0 l0_1) = some r := h
 clear h
 have H' := am H
 clear H
 go_enter Try.func129, Try.ntmps129
 go_wp2_with (first | ((with_reducible refine gate_dst (N := 3) rfl ?_); refine be_ 3 #[.int .i64 a0_0, .slice A0_1 l0_1.length c0_1] 34 ?_; intro gb252 hg w4 hbox hb; have BK252 := am hbox; have GW252 := am (ge_ hg HB); have GE252 := am (ge_ hg HB); replace HB := bs HB hb; clear hb hbox hg))
 go_loopg [7] k (fun kq v7 w' => ∃ (x7_1 : Int), v7 = .int .i64 x7_1 ∧ Aside0 (spec_l1Has.l0 kq a1 a2 x7_1 a0_0 l0_1 = some r) ∧ Aside0 (kq ≤ k) ∧ Aside0 (w'.heap[gb252]? = some (.cells #[.int .i64 a0_0, (.slice A0_1 l0_1.length c0_1)] 34 (0, 0))) ∧ Aside0 (Below w.heap.size w w'))
 case atStart => exact ⟨(0), (by first | rfl | (simp; done) | (simp [*]; done)), H', ⟨Nat.le_refl _⟩, ⟨bkn BK252⟩, ⟨bn HB⟩⟩
 case round =>
  clear H'
  try clear c1
  try clear p2
  obtain ⟨x7_1, rfl, HA, HK1, BK252, HB⟩ := hrel
  cases gk with
  | zero => exact absurd HA.out (by simp [spec_l1Has.l0])
  | succ k1 =>
   have H := HA.out
   clear HA
   simp only [spec_l1Has.l0] at H
   by_cases c5 : x7_1 < (l0_1.length : Int)
   ·rw [if_pos c5] at H
    have c5b0 := decide_eq_true c5
    clear c5
    obtain ⟨c6, H⟩ := ig_ H
    have c6b0 := decide_eq_true c6
    clear c6
    replace H := Option.bind_eq_some_iff.mp H
    obtain ⟨⟨t254, t255⟩, A70, H⟩ := H
    (try dsimp only at H)
    have A7 := am A70
    clear A70
    by_cases c8 : (((rd_T73 l0_1 x7_1).f0) == t254 && (((rd_T73 l0_1 x7_1).f1) == t255)) = true
    ·rw [if_pos c8] at H
     have c8b0 : (((rd_T73 l0_1 x7_1).f0) == t254 && (((rd_T73 l0_1 x7_1).f1) == t255)) = true := c8
     (try (have c8b1 : decide (((rd_T73 l0_1 x7_1).f0) = t254 && (((rd_T73 l0_1 x7_1).f1) == t255)) = true := by simpa using c8))
     (try (have c8b2 : (((rd_T73 l0_1 x7_1).f0) == t254 && (((rd_T73 l0_1 x7_1).f1) == t255)) = true := by simpa using c8))
     clear c8
     obtain rfl := Option.some.inj H
     obtain ⟨hcz9_0, hcz9_1, hfz9_0, hfz9_1⟩ := c2 BK252
     try go_wp2
     replace BK252 := am (blk_drew BK252.out)
     replace HB := am (below_drew1 HB.out)
     have p253 : 0 ≤ (x7_1 : Int) := oa
     have q253 : x7_1 < (l0_1.length : Int) := oa
     obtain ⟨ad253, e253, hx253_0, hx253_1⟩ := at_T73 HR0_1.out x7_1 p253 q253
     have hw253_1 := hx253_1
     have hw253_0 := hx253_0
     cases e253
     replace hx253_0 := (HB.out.cell (World.block_lt_of_cell? w _ hx253_0)).trans hx253_0
     replace hx253_1 := (HB.out.cell (World.block_lt_of_cell? w _ hx253_1)).trans hx253_1
     replace p253 := eq_true p253
     replace q253 := eq_true q253
     refine start_ (n := 9) (S := fun w' => w'.cell? ⟨gb252, 0, none⟩ = some (.int .i64 a0_0) ∧ w'.cell? ⟨gb252, 1, none⟩ = some (.slice (some ad253) l0_1.length c0_1) ∧ w'.cell? (ad253.add ((x7_1).toNat * 2)) = some (.int .i64 ((rd_T73 l0_1 x7_1).f0)) ∧ w'.cell? ⟨(ad253.add ((x7_1).toNat * 2)).block, (ad253.add ((x7_1).toNat * 2)).off + 1, none⟩ = some (.int .i64 ((rd_T73 l0_1 x7_1).f1))) (ds := []) #[false, false, false, false, false, false, false, false, false] (by kernel_rfl) rfl rfl ⟨(bc BK252 0), (bc BK252 1), ((HB.out.cell (World.block_lt_of_cell? w _ hw253_0)).trans hw253_0), ((HB.out.cell (World.block_lt_of_cell? w _ hw253_1)).trans hw253_1)⟩ (fun hHeld => ?_); refine with_tabW spec_l1Has.tab4 spec_l1Has.bits4 (fun HT_ HW_ => ?_)
     generalize wr.drew = w10 at BK252 HB hx253_0 hx253_1 hHeld ⊢
     refine pz_ 0 (some 15) HT_ ?_
     refine pz_ 2 (some 17) HT_ ?_
     refine pz_ 5 (some 20) HT_ ?_
     refine pz_ 6 (some 21) HT_ ?_
     refine tz_ 1 (some 16) HT_ HW_ hHeld ?_
     refine pz_ 3 (some 18) HT_ ?_
     refine tz_ 4 (some 19) HT_ HW_ hHeld ?_
     refine one_ (i := 7) (N := some 22) #[true, true, true, true, true, true, true, true, false] rfl rfl (one_of HT_.out (by kernel_rfl)) (by decide) (fun K hK => ?_)
     refine gg_ Try.func135 #[.int .i64 a1, .int .i64 a2] ?_
     with_reducible refine (spec_l1Tie.calls a1 a2 t254 t255 _ A7.out).mono ?_
     rintro e w11 ⟨rfl, hb⟩
     refine ⟨_, rfl, ?_⟩
     replace BK252 := bb BK252 hb
     replace HB := bs HB hb
     (try clear hb)
     (try clear hb2)
     (try clear hk)
     (try clear hi)
     refine hK.out _ _ ⟨(bc BK252 0), (bc BK252 1), ((HB.out.cell (World.block_lt_of_cell? w _ hw253_0)).trans hw253_0), ((HB.out.cell (World.block_lt_of_cell? w _ hw253_1)).trans hw253_1)⟩ (fun hHeld => ?_)
     clear hK K
     refine nz_ 22 ?_
     refine pz_ 8 (some 23) HT_ ?_
     refine done_ (done_of HT_.out (by kernel_rfl)) ?_
     try go_wp2
     go_ret
     exact ⟨by first | rfl | (simp [errW_none, errW_some] <;> rfl) | (simp [*, errW_none, errW_some] <;> rfl), bn HB⟩
    ·rw [if_neg c8] at H
     have c8b0 : (((rd_T73 l0_1 x7_1).f0) == t254 && (((rd_T73 l0_1 x7_1).f1) == t255)) = false := by simpa using c8
     (try (have c8b1 : decide (((rd_T73 l0_1 x7_1).f0) = t254 && (((rd_T73 l0_1 x7_1).f1) == t255)) = false := by simpa using c8))
     (try (have c8b2 : (((rd_T73 l0_1 x7_1).f0) == t254 && (((rd_T73 l0_1 x7_1).f1) == t255)) = false := by simpa using c8))
     (try (have c8b3 : ¬ (((rd_T73 l0_1 x7_1).f0) = t254 && (((rd_T73 l0_1 x7_1).f1) == t255)) := by simpa using c8))
     clear c8
     have H' := am H
     clear H
     obtain ⟨hcz12_0, hcz12_1, hfz12_0, hfz12_1⟩ := c2 BK252
     try go_wp2
     replace BK252 := am (blk_drew BK252.out)
     replace HB := am (below_drew1 HB.out)
     have p253 : 0 ≤ (x7_1 : Int) := oa
     have q253 : x7_1 < (l0_1.length : Int) := oa
     obtain ⟨ad253, e253, hx253_0, hx253_1⟩ := at_T73 HR0_1.out x7_1 p253 q253
     have hw253_1 := hx253_1
     have hw253_0 := hx253_0
     cases e253
     replace hx253_0 := (HB.out.cell (World.block_lt_of_cell? w _ hx253_0)).trans hx253_0
     replace hx253_1 := (HB.out.cell (World.block_lt_of_cell? w _ hx253_1)).trans hx253_1
     replace p253 := eq_true p253
     replace q253 := eq_true q253
     refine start_ (n := 9) (S := fun w' => w'.cell? ⟨gb252, 0, none⟩ = some (.int .i64 a0_0) ∧ w'.cell? ⟨gb252, 1, none⟩ = some (.slice (some ad253) l0_1.length c0_1) ∧ w'.cell? (ad253.add ((x7_1).toNat * 2)) = some (.int .i64 ((rd_T73 l0_1 x7_1).f0)) ∧ w'.cell? ⟨(ad253.add ((x7_1).toNat * 2)).block, (ad253.add ((x7_1).toNat * 2)).off + 1, none⟩ = some (.int .i64 ((rd_T73 l0_1 x7_1).f1))) (ds := []) #[false, false, false, false, false, false, false, false, false] (by kernel_rfl) rfl rfl ⟨(bc BK252 0), (bc BK252 1), ((HB.out.cell (World.block_lt_of_cell? w _ hw253_0)).trans hw253_0), ((HB.out.cell (World.block_lt_of_cell? w _ hw253_1)).trans hw253_1)⟩ (fun hHeld => ?_); refine with_tabW spec_l1Has.tab4 spec_l1Has.bits4 (fun HT_ HW_ => ?_)
     generalize wr.drew = w13 at BK252 HB hx253_0 hx253_1 hHeld ⊢
     refine pz_ 0 (some 15) HT_ ?_
     refine pz_ 2 (some 17) HT_ ?_
     refine pz_ 5 (some 20) HT_ ?_
     refine pz_ 6 (some 21) HT_ ?_
     refine tz_ 1 (some 16) HT_ HW_ hHeld ?_
     refine pz_ 3 (some 18) HT_ ?_
     refine tz_ 4 (some 19) HT_ HW_ hHeld ?_
     refine one_ (i := 7) (N := some 22) #[true, true, true, true, true, true, true, true, false] rfl rfl (one_of HT_.out (by kernel_rfl)) (by decide) (fun K hK => ?_)
     refine gg_ Try.func135 #[.int .i64 a1, .int .i64 a2] ?_
     with_reducible refine (spec_l1Tie.calls a1 a2 t254 t255 _ A7.out).mono ?_
     rintro e w14 ⟨rfl, hb⟩
     refine ⟨_, rfl, ?_⟩
     replace BK252 := bb BK252 hb
     replace HB := bs HB hb
     (try clear hb)
     (try clear hb2)
     (try clear hk)
     (try clear hi)
     refine hK.out _ _ ⟨(bc BK252 0), (bc BK252 1), ((HB.out.cell (World.block_lt_of_cell? w _ hw253_0)).trans hw253_0), ((HB.out.cell (World.block_lt_of_cell? w _ hw253_1)).trans hw253_1)⟩ (fun hHeld => ?_)
     clear hK K
     refine nz_ 22 ?_
     refine pz_ 8 (some 23) HT_ ?_
     refine done_ (done_of HT_.out (by kernel_rfl)) ?_
     try go_wp2
     go_roundg k1
     case measure => have := HK1.out; omega
     case rel => exact ⟨(wrap64 (x7_1 + 1)), (by first | rfl | (simp; done) | (simp [*]; done)), H', ⟨by have := HK1.out; omega⟩, ⟨bkn BK252⟩, ⟨bn HB⟩⟩
   ·rw [if_neg c5] at H
    have c5b0 := decide_eq_false c5
    clear c5
    obtain rfl := Option.some.inj H
    obtain ⟨hcz15_0, hcz15_1, hfz15_0, hfz15_1⟩ := c2 BK252
    go_wp2
    go_ret
    exact ⟨by first | rfl | (simp [errW_none, errW_some] <;> rfl) | (simp [*, errW_none, errW_some] <;> rfl), bn HB⟩

end Go.Proofs.Ytdlnnjgjfngccaa.F
