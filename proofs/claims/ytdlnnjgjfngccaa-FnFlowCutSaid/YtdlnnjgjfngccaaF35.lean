-- Written by oprint.py (wip/tools) over the kit's print program, for this seat.
import Derived.Test.YtdlnnjgjfngccaaF0
import Derived.Test.YtdlnnjgjfngccaaF1
import Derived.Test.YtdlnnjgjfngccaaF19
import Derived.Test.YtdlnnjgjfngccaaF20
namespace Go.Proofs.Ytdlnnjgjfngccaa.F
open Go.RowKit Go.Proofs.YtdlnnjgjfngccaaW.PrintWords Go.Proofs.YtdlnnjgjfngccaaW.PrintLast Go.Proofs.YtdlnnjgjfngccaaW.PrintMore
attribute [local go_sem] max2_int min2_int max_two min_two max_three min_three max_four min_four   -- for this text's walks alone
set_option linter.unusedVariables false
set_option linter.unusedSimpArgs false

attribute [local go_sem high] eqA73
/-! ### spec_NetCut: function 103 -/
def spec_NetCut.l0 : Nat → Int → Int → Int → Int → List (S73) → Int → List (S73) → Option (Int × (List (S73)) × Bool)
 | 0, _, _, _, _, _, _, _ => none
 | k + 1, x1, x2, x9, x481000, x481001, x484000, x484001 => if x9 < (x481001.length : Int) then (if 0 ≤ x9 then ((spec_l1Tie.f x1 x2).bind fun bt485 => (if (!(((rd_T73 x481001 x9).f0) == bt485.1) || (!(((rd_T73 x481001 x9).f1) == bt485.2))) = true then (if x484001.length < 8796093022208 then (spec_NetCut.l0 k x1 x2 (wrap64 (x9 + 1)) x481000 x481001 x484000 (x484001 ++ [(⟨(rd_T73 x481001 x9).f0, (rd_T73 x481001 x9).f1⟩ : S73)])) else (none)) else (spec_NetCut.l0 k x1 x2 (wrap64 (x9 + 1)) x481000 x481001 x484000 x484001))) else (none)) else (some (x484000, x484001, true))
def spec_NetCut.f (k : Nat) (a0_0 : Int) (l0_1 : List (S73)) (a1 : Int) (a2 : Int) : Option (Int × (List (S73)) × Bool) := (spec_NetHas.f k a0_0 l0_1 a1 a2).bind fun t482 => (if t482 = true then (spec_NetCut.l0 k a1 a2 0 a0_0 l0_1 a0_0 ([] : List (S73))) else (some (0, ([] : List (S73)), false)))
theorem spec_NetCut.mono_l : ∀ k, (∀ y0 y1 y2 y3 y4 y5 y6, LeO (spec_NetCut.l0 k y0 y1 y2 y3 y4 y5 y6) (spec_NetCut.l0 (k + 1) y0 y1 y2 y3 y4 y5 y6))
 | 0 => fun _ _ _ _ _ _ _ r h => by simp [spec_NetCut.l0] at h
 | k + 1 => by
  have ih0 := spec_NetCut.mono_l k
  ·intro y0 y1 y2 y3 y4 y5 y6
   unfold spec_NetCut.l0
   have m0_ := @spec_NetHas.mono
   exact mo_
theorem spec_NetCut.mono : ∀ a0 a1 a2 a3 k, LeO (spec_NetCut.f k a0 a1 a2 a3) (spec_NetCut.f (k + 1) a0 a1 a2 a3) := by
 intro a0 a1 a2 a3 k
 have ih0 := spec_NetCut.mono_l k
 unfold spec_NetCut.f
 have m0_ := @spec_NetHas.mono
 exact mo_
def spec_NetCut.T7 : Bool × List (List Nat × List Nat) := (true, [([], []), ([0], [0]), ([], []), ([1, 2], [1, 2]), ([3], [3]), ([], []), ([], []), ([5, 6], [5, 6]), ([4, 7], [4, 7])])
def spec_NetCut.B7 : List Nat := [0, 1, 0, 7, 15, 0, 0, 96, 255]
theorem spec_NetCut.tab7 : rtab .any (opsOf Try.f103 7) = spec_NetCut.T7 := by kernel_rfl
theorem spec_NetCut.bits7 : waitsOk spec_NetCut.T7.2 spec_NetCut.B7 = true := by kernel_rfl
def spec_NetCut.T8 : Bool × List (List Nat × List Nat) := (true, [([], []), ([0], [0]), ([], []), ([2], [2]), ([], []), ([3, 4], [3, 4]), ([5], [5]), ([6], [6]), ([1, 7], [1, 7]), ([0, 1, 2, 3, 4, 5, 6, 7, 8], []), ([9, 8, 8, 0, 1, 2, 3, 4, 5, 6, 7, 8], [8, 9])])
def spec_NetCut.B8 : List Nat := [0, 1, 0, 4, 0, 28, 60, 124, 255, 511, 1023]
theorem spec_NetCut.tab8 : rtab .any (opsOf Try.f103 8) = spec_NetCut.T8 := by kernel_rfl
theorem spec_NetCut.bits8 : waitsOk spec_NetCut.T8.2 spec_NetCut.B8 = true := by kernel_rfl
set_option maxHeartbeats 8000000 in
set_option maxRecDepth 100000 in
theorem spec_NetCut.calls (k : Nat) (a0_0 : Int) (A0_1 : Option Addr) (c0_1 : Nat) (l0_1 : List (S73)) (a1 : Int) (a2 : Int) (r1 : Int) (r2 : List (S73)) (r3 : Bool) (w : World) (hr0_1 : Kd.C k73 w A0_1 l0_1.length l0_1) (hc0_1 : l0_1.length ≤ c0_1) (h : spec_NetCut.f k a0_0 l0_1 a1 a2 = some (r1, r2, r3)) :
  Calls Try.prog 103 #[.agg #[.int .i64 a0_0, .slice A0_1 l0_1.length c0_1], .int .i64 a1, .int .i64 a2] w fun e w' => ∃ v1_ : Value, e = .returned (.tuple #[.agg #[.int .i64 r1, v1_], .bool r3]) ∧ Kd.R k73 73 w' w.heap.size (fun _ => True) v1_ r2 ∧ Below w.heap.size w w' := by
 have hu34 := Try.underlying34
 have hu73 := Try.underlying73
 have HR0_1 := am hr0_1
 have HC0_1 := am hc0_1
 clear hr0_1 hc0_1
 have HB := am (Below.refl w.heap.size w)
 have H : ((spec_NetHas.f k a0_0 l0_1 a1 a2).bind fun t482 => (if t482 = true then (spec_NetCut.l0 k a1 a2 0 a0_0 l0_1 a0_0 ([] : List (S73))) else (some (0, ([] : List (S73)), false)))) = some (r1, r2, r3) := h
 clear h
 replace H := Option.bind_eq_some_iff.mp H
 obtain ⟨t482, A40, H⟩ := H
 (try dsimp only at H)
 have A4 := am A40
 clear A40
 by_cases c5 : t482 = true
 ·subst c5
  rw [if_pos rfl] at H
  have H' := am H
  clear H
  go_enter Try.func103, Try.ntmps103
  go_wp2_with (first | ((with_reducible refine gate_dst (N := 3) rfl ?_); refine be_ 3 #[.int .i64 a0_0, .slice A0_1 l0_1.length c0_1] 34 ?_; intro gb480 hg w6 hbox hb; have BK480 := am hbox; have GW480 := am (ge_ hg HB); have GE480 := am (ge_ hg HB); replace HB := bs HB hb; clear hb hbox hg) | ((with_reducible refine gate_dst (N := 6) rfl ?_); refine be_ 6 #[.int .i64 0, .slice none 0 0] 34 ?_; intro gb481 hg w7 hbox hb; have BK481 := am hbox; have GW481 := am (ge_ hg HB); have GE481 := am (ge_ hg HB); replace HB := bs HB hb; obtain ⟨NB480_481, NB481_480⟩ := nb_ hg BK480; replace BK480 := bb BK480 hb; clear hb hbox hg; obtain ⟨hnb8, hnc8⟩ := n2 NB480_481 NB481_480; obtain ⟨hcz9_0, hcz9_1, hfz9_0, hfz9_1⟩ := c2 BK480) | ((with_reducible refine gate_callee (f := 96) rfl ?_); refine gl_ (some 13) Try.func96 #[.agg #[.int .i64 a0_0, .slice A0_1 l0_1.length c0_1], .int .i64 a1, .int .i64 a2] ?_; (with_reducible refine (spec_NetHas.calls k a0_0 _ _ l0_1 a1 a2 true _ ?side1 ?side2 A4.out).mono ?_); (case side1 => exact cb HR0_1 HB); (case side2 => exact HC0_1.out); rintro e w10 ⟨rfl, hb⟩; refine ⟨_, rfl, ?_⟩; replace BK480 := bb BK480 hb; replace BK481 := bb BK481 hb; replace HB := bs HB hb; (try clear hb); obtain ⟨hcz11_0, hcz11_1, hfz11_0, hfz11_1⟩ := c2 BK480) | ((with_reducible refine gate_dst (N := 8) rfl ?_); refine be_ 8 #[.int .i64 0, .slice none 0 0] 34 ?_; intro gb483 hg w12 hbox hb; have BK483 := am hbox; have GW483 := am (ge_ hg HB); have GE483 := am (ge_ hg HB); replace HB := bs HB hb; obtain ⟨NB480_483, NB483_480⟩ := nb_ hg BK480; replace BK480 := bb BK480 hb; obtain ⟨NB481_483, NB483_481⟩ := nb_ hg BK481; replace BK481 := bb BK481 hb; clear hb hbox hg; obtain ⟨hnb13, hnc13⟩ := n2 NB483_480 NB480_483; obtain ⟨hnb14, hnc14⟩ := n2 NB483_481 NB481_483; obtain ⟨hcz15_0, hcz15_1, hfz15_0, hfz15_1⟩ := c2 BK483))
  go_loopg [9] k (fun kq v9 w' => ∃ (x9_1 : Int) (x484001_1 : List (S73)) (u484001 : Value), v9 = .int .i64 x9_1 ∧ Aside0 (spec_NetCut.l0 kq a1 a2 x9_1 a0_0 l0_1 a0_0 x484001_1 = some (r1, r2, r3)) ∧ Aside0 (kq ≤ k) ∧ Aside0 (Kd.R k73 73 w' w.heap.size (fun _ => True) u484001 x484001_1) ∧ Aside0 (w'.heap[gb480]? = some (.cells #[.int .i64 a0_0, (.slice A0_1 l0_1.length c0_1)] 34 (0, 0))) ∧ Aside0 (w'.heap[gb481]? = some (.cells #[.int .i64 0, (.slice none 0 0)] 34 (0, 0))) ∧ Aside0 (w'.heap[gb483]? = some (.cells #[.int .i64 a0_0, u484001] 34 (0, 0))) ∧ Aside0 (Below w.heap.size w w'))
  case atStart => exact ⟨(0), (([] : List (S73))), (.slice none 0 0), (by first | rfl | (simp; done) | (simp [*]; done)), H', ⟨Nat.le_refl _⟩, ⟨by first | exact Kd.R_nil _ _ _ _ _ | exact Kd.N_nil _ _ _ _ _ | exact Kd.V_nil _ _ _ _ _ | exact Kd.Q_nil _ _ _ _ _ | exact Kd.S_nil _ _ _ _ _⟩, ⟨bkn BK480⟩, ⟨bkn BK481⟩, ⟨by (with_reducible repeat (first | refine blk_drewN ?_ _ | refine blk_drew ?_ | refine blk_alloc ?_ _)); refine blk_put (cs := #[.int .i64 a0_0, .slice none 0 0]) ?_ 1 _ rfl; (with_reducible repeat (first | refine blk_drewN ?_ _ | refine blk_drew ?_ | refine blk_alloc ?_ _)); refine blk_put (cs := #[.int .i64 0, .slice none 0 0]) ?_ 0 _ rfl; (with_reducible repeat (first | refine blk_drewN ?_ _ | refine blk_drew ?_ | refine blk_alloc ?_ _)); exact BK483.out⟩, ⟨bn HB⟩⟩
  case round =>
   clear H'
   try clear c1
   try clear p2
   try clear c5
   try clear c8
   try clear c9
   try clear c10
   try clear c13
   try clear c14
   try clear hcz11_0 hcz11_1 hfz11_0 hfz11_1
   try clear hcz15_0 hcz15_1 hfz15_0 hfz15_1
   try clear hcz9_0 hcz9_1 hfz9_0 hfz9_1
   obtain ⟨x9_1, x484001_1, u484001, rfl, HA, HK1, HO_484001, BK480, BK481, BK483, HB⟩ := hrel
   cases gk with
   | zero => exact absurd HA.out (by simp [spec_NetCut.l0])
   | succ k1 =>
    have H := HA.out
    clear HA
    simp only [spec_NetCut.l0] at H
    by_cases c16 : x9_1 < (l0_1.length : Int)
    ·rw [if_pos c16] at H
     have c16b0 := decide_eq_true c16
     clear c16
     obtain ⟨c17, H⟩ := ig_ H
     have c17b0 := decide_eq_true c17
     clear c17
     replace H := Option.bind_eq_some_iff.mp H
     obtain ⟨⟨t485, t486⟩, A180, H⟩ := H
     (try dsimp only at H)
     have A18 := am A180
     clear A180
     by_cases c19 : (!(((rd_T73 l0_1 x9_1).f0) == t485) || (!(((rd_T73 l0_1 x9_1).f1) == t486))) = true
     ·rw [if_pos c19] at H
      have c19b0 : (!(((rd_T73 l0_1 x9_1).f0) == t485) || (!(((rd_T73 l0_1 x9_1).f1) == t486))) = true := c19
      clear c19
      obtain ⟨c20, H⟩ := ig_ H
      have LMc20 := am c20
      clear c20
      obtain ⟨y488, hy488⟩ : ∃ y_ : List (S73), y_ = (x484001_1 ++ [(⟨(rd_T73 l0_1 x9_1).f0, (rd_T73 l0_1 x9_1).f1⟩ : S73)]) := ⟨_, rfl⟩
      replace H : (spec_NetCut.l0 k1 a1 a2 (wrap64 (x9_1 + 1)) a0_0 l0_1 a0_0 y488) = some (r1, r2, r3) := nh_ hy488 H
      have Ny488 := am hy488
      clear hy488
      have H' := am H
      clear H
      obtain ⟨hnb21, hnc21⟩ := n2 NB480_481 NB481_480
      obtain ⟨hnb22, hnc22⟩ := n2 NB480_483 NB483_480
      obtain ⟨hcz23_0, hcz23_1, hfz23_0, hfz23_1⟩ := c2 BK480
      try go_wp2
      replace HO_484001 := am (Kd.R_drew HO_484001.out)
      replace BK480 := am (blk_drew BK480.out)
      replace BK481 := am (blk_drew BK481.out)
      replace BK483 := am (blk_drew BK483.out)
      replace HB := am (below_drew1 HB.out)
      have p484 : 0 ≤ (x9_1 : Int) := oa
      have q484 : x9_1 < (l0_1.length : Int) := oa
      obtain ⟨ad484, e484, hx484_0, hx484_1⟩ := at_T73 HR0_1.out x9_1 p484 q484
      have hw484_1 := hx484_1
      have hw484_0 := hx484_0
      cases e484
      replace hx484_0 := (HB.out.cell (World.block_lt_of_cell? w _ hx484_0)).trans hx484_0
      replace hx484_1 := (HB.out.cell (World.block_lt_of_cell? w _ hx484_1)).trans hx484_1
      replace p484 := eq_true p484
      replace q484 := eq_true q484
      refine start_ (n := 9) (S := fun w' => w'.cell? ⟨gb480, 0, none⟩ = some (.int .i64 a0_0) ∧ w'.cell? ⟨gb480, 1, none⟩ = some (.slice (some ad484) l0_1.length c0_1) ∧ w'.cell? (ad484.add ((x9_1).toNat * 2)) = some (.int .i64 ((rd_T73 l0_1 x9_1).f0)) ∧ w'.cell? ⟨(ad484.add ((x9_1).toNat * 2)).block, (ad484.add ((x9_1).toNat * 2)).off + 1, none⟩ = some (.int .i64 ((rd_T73 l0_1 x9_1).f1))) (ds := []) #[false, false, false, false, false, false, false, false, false] (by kernel_rfl) rfl rfl ⟨(bc BK480 0), (bc BK480 1), ((HB.out.cell (World.block_lt_of_cell? w _ hw484_0)).trans hw484_0), ((HB.out.cell (World.block_lt_of_cell? w _ hw484_1)).trans hw484_1)⟩ (fun hHeld => ?_); refine with_tabW spec_NetCut.tab7 spec_NetCut.bits7 (fun HT_ HW_ => ?_)
      generalize wr.drew = w24 at HO_484001 BK480 BK481 BK483 HB hx484_0 hx484_1 hHeld ⊢
      refine pz_ 0 (some 26) HT_ ?_
      refine pz_ 2 (some 28) HT_ ?_
      refine pz_ 5 (some 31) HT_ ?_
      refine pz_ 6 (some 32) HT_ ?_
      refine tz_ 1 (some 27) HT_ HW_ hHeld ?_
      refine pz_ 3 (some 29) HT_ ?_
      refine tz_ 4 (some 30) HT_ HW_ hHeld ?_
      refine one_ (i := 7) (N := some 33) #[true, true, true, true, true, true, true, true, false] rfl rfl (one_of HT_.out (by kernel_rfl)) (by decide) (fun K hK => ?_)
      refine gg_ Try.func135 #[.int .i64 a1, .int .i64 a2] ?_
      with_reducible refine (spec_l1Tie.calls a1 a2 t485 t486 _ A18.out).mono ?_
      rintro e w25 ⟨rfl, hb⟩
      refine ⟨_, rfl, ?_⟩
      replace HO_484001 := am (Kd.R_below (onR HO_484001) hb)
      replace BK480 := bb BK480 hb
      replace BK481 := bb BK481 hb
      replace BK483 := bb BK483 hb
      replace HB := bs HB hb
      (try clear hb)
      (try clear hb2)
      (try clear hk)
      (try clear hi)
      refine hK.out _ _ ⟨(bc BK480 0), (bc BK480 1), ((HB.out.cell (World.block_lt_of_cell? w _ hw484_0)).trans hw484_0), ((HB.out.cell (World.block_lt_of_cell? w _ hw484_1)).trans hw484_1)⟩ (fun hHeld => ?_)
      clear hK K
      refine nz_ 33 ?_
      refine pz_ 8 (some 34) HT_ ?_
      refine done_ (done_of HT_.out (by kernel_rfl)) ?_
      try go_wp2
      replace HO_484001 := am (Kd.R_drew HO_484001.out)
      replace BK480 := am (blk_drew BK480.out)
      replace BK481 := am (blk_drew BK481.out)
      replace BK483 := am (blk_drew BK483.out)
      replace HB := am (below_drew1 HB.out)
      have p487 : 0 ≤ (x9_1 : Int) := oa
      have q487 : x9_1 < (l0_1.length : Int) := oa
      obtain ⟨ad487, e487, hx487_0, hx487_1⟩ := at_T73 HR0_1.out x9_1 p487 q487
      have hw487_1 := hx487_1
      have hw487_0 := hx487_0
      obtain rfl : ad484 = ad487 := (by injection e487)
      replace hx487_0 := (HB.out.cell (World.block_lt_of_cell? w _ hx487_0)).trans hx487_0
      replace hx487_1 := (HB.out.cell (World.block_lt_of_cell? w _ hx487_1)).trans hx487_1
      replace p487 := eq_true p487
      replace q487 := eq_true q487
      refine start_ (n := 11) (S := fun w' => w'.cell? ⟨gb483, 0, none⟩ = some (.int .i64 a0_0) ∧ w'.cell? ⟨gb483, 1, none⟩ = some (u484001) ∧ w'.cell? ⟨gb480, 0, none⟩ = some (.int .i64 a0_0) ∧ w'.cell? ⟨gb480, 1, none⟩ = some (.slice (some ad484) l0_1.length c0_1) ∧ w'.cell? (ad484.add ((x9_1).toNat * 2)) = some (.int .i64 ((rd_T73 l0_1 x9_1).f0)) ∧ w'.cell? ⟨(ad484.add ((x9_1).toNat * 2)).block, (ad484.add ((x9_1).toNat * 2)).off + 1, none⟩ = some (.int .i64 ((rd_T73 l0_1 x9_1).f1))) (ds := [10]) #[false, false, false, false, false, false, false, false, false, false, false] (by kernel_rfl) rfl rfl ⟨(bc BK483 0), (bc BK483 1), (bc BK480 0), (bc BK480 1), ((HB.out.cell (World.block_lt_of_cell? w _ hw487_0)).trans hw487_0), ((HB.out.cell (World.block_lt_of_cell? w _ hw487_1)).trans hw487_1)⟩ (fun hHeld => ?_); refine with_tabW spec_NetCut.tab8 spec_NetCut.bits8 (fun HT_ HW_ => ?_)
      generalize w25.drew = w26 at HO_484001 BK480 BK481 BK483 HB hx487_0 hx487_1 hHeld ⊢
      refine pz_ 0 (some 35) HT_ ?_
      refine pz_ 2 (some 37) HT_ ?_
      refine pz_ 4 (some 39) HT_ ?_
      refine tz_ 1 (some 36) HT_ HW_ hHeld ?_
      refine tz_ 3 (some 38) HT_ HW_ hHeld ?_
      refine pz_ 5 (some 40) HT_ ?_
      refine tz_ 6 (some 41) HT_ HW_ hHeld ?_
      refine one_ (i := 7) (N := some 42) #[true, true, true, true, true, true, true, true, false, false, false] rfl rfl (one_of HT_.out (by kernel_rfl)) (by decide) (fun K hK => ?_)
      refine value_ (w1 := ?_) (v := ?_) (by rfl) rfl ?_ ?_
      rotate_left 2
      ·go_simp
       constructor
       ·rfl
       ·rfl
      refine hK.out _ _ ⟨(blk_cell (blk_alloc BK483.out _) 0).trans rfl, (blk_cell (blk_alloc BK483.out _) 1).trans rfl, (blk_cell (blk_alloc BK480.out _) 0).trans rfl, (blk_cell (blk_alloc BK480.out _) 1).trans rfl, (World.cell?_alloc_lt _ _ _ (World.block_lt_of_cell? _ _ (((HB.out.cell (World.block_lt_of_cell? w _ hw487_0)).trans hw487_0)))).trans (((HB.out.cell (World.block_lt_of_cell? w _ hw487_0)).trans hw487_0)), (World.cell?_alloc_lt _ _ _ (World.block_lt_of_cell? _ _ (((HB.out.cell (World.block_lt_of_cell? w _ hw487_1)).trans hw487_1)))).trans (((HB.out.cell (World.block_lt_of_cell? w _ hw487_1)).trans hw487_1))⟩ (fun hHeld => ?_)
      clear hK K
      refine nz_ 42 ?_
      refine one_ (i := 8) (N := some 43) #[true, true, true, true, true, true, true, true, true, false, false] rfl rfl (one_of HT_.out (by kernel_rfl)) (by decide) (fun K hK => ?_)
      refine Kd.R_append_step k73 (w0 := w) w.heap.size (by rfl) (.tmp 36) (.tmp 42) 32 73 (.agg #[(.int .i64 0), (.int .i64 0)]) 16 rfl Try.underlying32 info73 rfl (by decide) (by omega) u484001 x484001_1 (⟨(rd_T73 l0_1 x9_1).f0, (rd_T73 l0_1 x9_1).f1⟩ : S73) [.int .i64 ((rd_T73 l0_1 x9_1).f0), .int .i64 ((rd_T73 l0_1 x9_1).f1)] (fun _ => True) (fun _ => False) rfl rfl ?aP (fun _ hk => hk.elim) ?aF ?aO ?aB ?aS ?aL ?_
      (case aP => exact k73_mkM _ _ _ (⟨(rd_T73 l0_1 x9_1).f0, (rd_T73 l0_1 x9_1).f1⟩ : S73))
      (case aB => exact (bn HB))
      (case aF => exact (fun _ _ => trivial))
      (case aO => exact (onR HO_484001))
      (case aS => exact (below_size (bn HB)))
      (case aL => have := LMc20.out; omega)
      intro v489 w27 ho hb hg hat
      rw [← Ny488.out] at ho
      have n0_ := am (blk_grown (bkn BK480) hg (Kd.R_ne HO_484001.out BK480.out (by decide)))
      have n1_ := am (blk_grown (bkn BK481) hg (Kd.R_ne HO_484001.out BK481.out (by decide)))
      have n2_ := am (blk_grown (bkn BK483) hg (Kd.R_ne HO_484001.out BK483.out (by decide)))
      have n3_ := am hb
      have n4_ := am ho
      clear BK480 BK481 BK483 HB HO_484001
      have BK480 := n0_
      have BK481 := n1_
      have BK483 := n2_
      have HB := n3_
      have HO490 := n4_
      clear n0_ n1_ n2_ n3_ n4_ ho hb hg hat
      obtain ⟨Ao28, co28, eo28⟩ := Kd.R_slice HO490.out
      (first | subst eo28 | (injection eo28 with f1_ f2_ f3_; have f4_ := f1_.symm; have f5_ := f3_.symm; clear f1_ f2_ f3_; subst f4_; subst f5_))
      refine hK.out _ _ ⟨(bc BK483 0), (bc BK483 1), (bc BK480 0), (bc BK480 1), ((HB.out.cell (World.block_lt_of_cell? w _ hw487_0)).trans hw487_0), ((HB.out.cell (World.block_lt_of_cell? w _ hw487_1)).trans hw487_1)⟩ (fun hHeld => ?_)
      clear hK K
      refine nz_ 43 ?_
      refine pz_ 9 (some 44) HT_ ?_
      refine last_ (i := 10) (N := none) #[true, true, true, true, true, true, true, true, true, true, true] rfl rfl (one_of HT_.out (by kernel_rfl)) (by decide) (fun K hK => ?_)
      have hs29 := bc BK483 1
      have hfs29 := blk_frozen BK483.out 1
      have hns29_0 := NB480_483.out
      have hns29_1 := NB481_483.out
      have hms29_0 := NB483_480.out
      have hms29_1 := NB483_481.out
      refine skip_ (w1 := ?_) (by rfl) rfl ?_ ?_
      rotate_left
      ·go_simp
       rfl
      refine hK.out _ _ ?_
      clear hK K
      refine done_ (done_of HT_.out (by kernel_rfl)) ?_
      try go_wp2
      go_roundg k1
      case measure => have := HK1.out; omega
      case rel => exact ⟨(wrap64 (x9_1 + 1)), (y488), (.slice Ao28 y488.length co28), (by first | rfl | (simp; done) | (simp [*]; done)), H', ⟨by have := HK1.out; omega⟩, ⟨by (with_reducible repeat (first | apply Kd.R_alloc | apply Kd.R_drewN | apply Kd.R_drew)); exact Kd.R_mono (Kd.R_far (p := ⟨gb483, 1, none⟩) (Kd.R_types HO490.out BK483.out (by decide)) (fun _ hk => hk.2) (.slice Ao28 y488.length co28)) (fun _ hk => trivial)⟩, ⟨bkn BK480⟩, ⟨bkn BK481⟩, ⟨by (with_reducible repeat (first | refine blk_drewN ?_ _ | refine blk_drew ?_ | refine blk_alloc ?_ _)); refine blk_put (cs := #[.int .i64 a0_0, u484001]) ?_ 1 _ rfl; (with_reducible repeat (first | refine blk_drewN ?_ _ | refine blk_drew ?_ | refine blk_alloc ?_ _)); exact BK483.out⟩, ⟨bn HB⟩⟩
     ·rw [if_neg c19] at H
      have c19b0 : (!(((rd_T73 l0_1 x9_1).f0) == t485) || (!(((rd_T73 l0_1 x9_1).f1) == t486))) = false := by simpa using c19
      clear c19
      have H' := am H
      clear H
      obtain ⟨hnb30, hnc30⟩ := n2 NB480_481 NB481_480
      obtain ⟨hnb31, hnc31⟩ := n2 NB480_483 NB483_480
      obtain ⟨hcz32_0, hcz32_1, hfz32_0, hfz32_1⟩ := c2 BK480
      try go_wp2
      replace HO_484001 := am (Kd.R_drew HO_484001.out)
      replace BK480 := am (blk_drew BK480.out)
      replace BK481 := am (blk_drew BK481.out)
      replace BK483 := am (blk_drew BK483.out)
      replace HB := am (below_drew1 HB.out)
      have p484 : 0 ≤ (x9_1 : Int) := oa
      have q484 : x9_1 < (l0_1.length : Int) := oa
      obtain ⟨ad484, e484, hx484_0, hx484_1⟩ := at_T73 HR0_1.out x9_1 p484 q484
      have hw484_1 := hx484_1
      have hw484_0 := hx484_0
      cases e484
      replace hx484_0 := (HB.out.cell (World.block_lt_of_cell? w _ hx484_0)).trans hx484_0
      replace hx484_1 := (HB.out.cell (World.block_lt_of_cell? w _ hx484_1)).trans hx484_1
      replace p484 := eq_true p484
      replace q484 := eq_true q484
      refine start_ (n := 9) (S := fun w' => w'.cell? ⟨gb480, 0, none⟩ = some (.int .i64 a0_0) ∧ w'.cell? ⟨gb480, 1, none⟩ = some (.slice (some ad484) l0_1.length c0_1) ∧ w'.cell? (ad484.add ((x9_1).toNat * 2)) = some (.int .i64 ((rd_T73 l0_1 x9_1).f0)) ∧ w'.cell? ⟨(ad484.add ((x9_1).toNat * 2)).block, (ad484.add ((x9_1).toNat * 2)).off + 1, none⟩ = some (.int .i64 ((rd_T73 l0_1 x9_1).f1))) (ds := []) #[false, false, false, false, false, false, false, false, false] (by kernel_rfl) rfl rfl ⟨(bc BK480 0), (bc BK480 1), ((HB.out.cell (World.block_lt_of_cell? w _ hw484_0)).trans hw484_0), ((HB.out.cell (World.block_lt_of_cell? w _ hw484_1)).trans hw484_1)⟩ (fun hHeld => ?_); refine with_tabW spec_NetCut.tab7 spec_NetCut.bits7 (fun HT_ HW_ => ?_)
      generalize wr.drew = w33 at HO_484001 BK480 BK481 BK483 HB hx484_0 hx484_1 hHeld ⊢
      refine pz_ 0 (some 26) HT_ ?_
      refine pz_ 2 (some 28) HT_ ?_
      refine pz_ 5 (some 31) HT_ ?_
      refine pz_ 6 (some 32) HT_ ?_
      refine tz_ 1 (some 27) HT_ HW_ hHeld ?_
      refine pz_ 3 (some 29) HT_ ?_
      refine tz_ 4 (some 30) HT_ HW_ hHeld ?_
      refine one_ (i := 7) (N := some 33) #[true, true, true, true, true, true, true, true, false] rfl rfl (one_of HT_.out (by kernel_rfl)) (by decide) (fun K hK => ?_)
      refine gg_ Try.func135 #[.int .i64 a1, .int .i64 a2] ?_
      with_reducible refine (spec_l1Tie.calls a1 a2 t485 t486 _ A18.out).mono ?_
      rintro e w34 ⟨rfl, hb⟩
      refine ⟨_, rfl, ?_⟩
      replace HO_484001 := am (Kd.R_below (onR HO_484001) hb)
      replace BK480 := bb BK480 hb
      replace BK481 := bb BK481 hb
      replace BK483 := bb BK483 hb
      replace HB := bs HB hb
      (try clear hb)
      (try clear hb2)
      (try clear hk)
      (try clear hi)
      refine hK.out _ _ ⟨(bc BK480 0), (bc BK480 1), ((HB.out.cell (World.block_lt_of_cell? w _ hw484_0)).trans hw484_0), ((HB.out.cell (World.block_lt_of_cell? w _ hw484_1)).trans hw484_1)⟩ (fun hHeld => ?_)
      clear hK K
      refine nz_ 33 ?_
      refine pz_ 8 (some 34) HT_ ?_
      refine done_ (done_of HT_.out (by kernel_rfl)) ?_
      try go_wp2
      go_roundg k1
      case measure => have := HK1.out; omega
      case rel => exact ⟨(wrap64 (x9_1 + 1)), (x484001_1), (u484001), (by first | rfl | (simp; done) | (simp [*]; done)), H', ⟨by have := HK1.out; omega⟩, ⟨onR HO_484001⟩, ⟨bkn BK480⟩, ⟨bkn BK481⟩, ⟨bkn BK483⟩, ⟨bn HB⟩⟩
    ·rw [if_neg c16] at H
     have c16b0 := decide_eq_false c16
     clear c16
     simp only [Option.some.injEq, Prod.mk.injEq] at H
     obtain ⟨rfl, rfl, rfl⟩ := H
     obtain ⟨hnb35, hnc35⟩ := n2 NB480_481 NB481_480
     obtain ⟨hnb36, hnc36⟩ := n2 NB480_483 NB483_480
     obtain ⟨hcz37_0, hcz37_1, hfz37_0, hfz37_1⟩ := c2 BK480
     obtain ⟨hnb38, hnc38⟩ := n2 NB483_481 NB481_483
     obtain ⟨hcz39_0, hcz39_1, hfz39_0, hfz39_1⟩ := c2 BK483
     obtain ⟨hcz40_0, hcz40_1, hfz40_0, hfz40_1⟩ := c2 BK481
     obtain ⟨Ao41, co41, eo41⟩ := Kd.R_slice HO_484001.out
     subst eo41
     go_wp2
     refine bodyPost_ret (results_ct rfl _ _ gb481 34 #[.int .i64 a0_0, .slice Ao41 x484001_1.length co41] (0, 0) _ rfl (by (with_reducible repeat (first | refine blk_drewN ?_ _ | refine blk_drew ?_ | refine blk_alloc ?_ _)); refine blk_put (cs := #[.int .i64 a0_0, .slice none 0 0]) ?_ 1 _ rfl; (with_reducible repeat (first | refine blk_drewN ?_ _ | refine blk_drew ?_ | refine blk_alloc ?_ _)); refine blk_put (cs := #[.int .i64 0, .slice none 0 0]) ?_ 0 _ rfl; (with_reducible repeat (first | refine blk_drewN ?_ _ | refine blk_drew ?_ | refine blk_alloc ?_ _)); exact BK481.out) Try.underlying34 rfl (by kernel_rfl)) rfl ?_
     exact ⟨_, by first | rfl | (simp [errW_none, errW_some] <;> rfl) | (simp [*, errW_none, errW_some] <;> rfl), by (with_reducible repeat (first | apply Kd.R_alloc | apply Kd.R_drewN | apply Kd.R_drew)); exact Kd.R_mono (Kd.R_far (p := ⟨gb481, 1, none⟩) (Kd.R_far (p := ⟨gb481, 0, none⟩) (Kd.R_types HO_484001.out BK481.out (by decide)) (fun _ hk => hk.2) (.int .i64 a0_0)) (fun _ hk => hk.2) (.slice Ao41 x484001_1.length co41)) (fun _ hk => trivial), bn HB⟩
 ·replace c5 := Bool.eq_false_iff.mpr c5
  subst c5
  rw [if_neg (show ¬ (false = true) by decide)] at H
  simp only [Option.some.injEq, Prod.mk.injEq] at H
  obtain ⟨rfl, rfl, rfl⟩ := H
  go_enter Try.func103, Try.ntmps103
  go_wp2_with (first | ((with_reducible refine gate_dst (N := 3) rfl ?_); refine be_ 3 #[.int .i64 a0_0, .slice A0_1 l0_1.length c0_1] 34 ?_; intro gb480 hg w42 hbox hb; have BK480 := am hbox; have GW480 := am (ge_ hg HB); have GE480 := am (ge_ hg HB); replace HB := bs HB hb; clear hb hbox hg) | ((with_reducible refine gate_dst (N := 6) rfl ?_); refine be_ 6 #[.int .i64 0, .slice none 0 0] 34 ?_; intro gb481 hg w43 hbox hb; have BK481 := am hbox; have GW481 := am (ge_ hg HB); have GE481 := am (ge_ hg HB); replace HB := bs HB hb; obtain ⟨NB480_481, NB481_480⟩ := nb_ hg BK480; replace BK480 := bb BK480 hb; clear hb hbox hg; obtain ⟨hnb44, hnc44⟩ := n2 NB480_481 NB481_480; obtain ⟨hcz45_0, hcz45_1, hfz45_0, hfz45_1⟩ := c2 BK480) | ((with_reducible refine gate_callee (f := 96) rfl ?_); refine gl_ (some 13) Try.func96 #[.agg #[.int .i64 a0_0, .slice A0_1 l0_1.length c0_1], .int .i64 a1, .int .i64 a2] ?_; (with_reducible refine (spec_NetHas.calls k a0_0 _ _ l0_1 a1 a2 false _ ?side1 ?side2 A4.out).mono ?_); (case side1 => exact cb HR0_1 HB); (case side2 => exact HC0_1.out); rintro e w46 ⟨rfl, hb⟩; refine ⟨_, rfl, ?_⟩; replace BK480 := bb BK480 hb; replace BK481 := bb BK481 hb; replace HB := bs HB hb; (try clear hb); obtain ⟨hcz47_0, hcz47_1, hfz47_0, hfz47_1⟩ := c2 BK481))
  refine bodyPost_ret (results_ct rfl _ _ gb481 34 #[.int .i64 0, .slice none 0 0] (0, 0) _ rfl (by (with_reducible repeat (first | refine blk_drewN ?_ _ | refine blk_drew ?_ | refine blk_alloc ?_ _)); refine blk_put (cs := #[.int .i64 0, .slice none 0 0]) ?_ 1 _ rfl; (with_reducible repeat (first | refine blk_drewN ?_ _ | refine blk_drew ?_ | refine blk_alloc ?_ _)); refine blk_put (cs := #[.int .i64 0, .slice none 0 0]) ?_ 0 _ rfl; (with_reducible repeat (first | refine blk_drewN ?_ _ | refine blk_drew ?_ | refine blk_alloc ?_ _)); exact BK481.out) Try.underlying34 rfl (by kernel_rfl)) rfl ?_
  exact ⟨_, by first | rfl | (simp [errW_none, errW_some] <;> rfl) | (simp [*, errW_none, errW_some] <;> rfl), by first | exact Kd.R_nil _ _ _ _ _ | exact Kd.N_nil _ _ _ _ _ | exact Kd.V_nil _ _ _ _ _ | exact Kd.Q_nil _ _ _ _ _ | exact Kd.S_nil _ _ _ _ _, bn HB⟩

end Go.Proofs.Ytdlnnjgjfngccaa.F
