-- Written by oprint.py (wip/tools) over the kit's print program, for this seat.
import Derived.Test.YtdlnnjgjfngccaaF0
import Derived.Test.YtdlnnjgjfngccaaF32
import Derived.Test.YtdlnnjgjfngccaaF38
namespace Go.Proofs.Ytdlnnjgjfngccaa.F
open Go.RowKit Go.Proofs.YtdlnnjgjfngccaaW.PrintWords Go.Proofs.YtdlnnjgjfngccaaW.PrintLast Go.Proofs.YtdlnnjgjfngccaaW.PrintMore
attribute [local go_sem] max2_int min2_int max_two min_two max_three min_three max_four min_four   -- for this text's walks alone
set_option linter.unusedVariables false
set_option linter.unusedSimpArgs false

/-! ### impl_Net_bridges: function 117 -/
def impl_Net_bridges.l0 : Nat → List (S73) → List (S73) → Int → Int → Int → List (S73) → Option ((List (S73)))
 | 0, _, _, _, _, _, _ => none
 | k + 1, x3, x8, x9, x10, x1007000, x1007001 => if x10 < x9 then (if 0 ≤ x10 then (if x10 < (x8.length : Int) then ((impl_Net_less.f k x1007000 x1007001 (([(⟨(rd_T73 x8 x10).f0, (rd_T73 x8 x10).f1⟩ : S73)] : List (S73)))).bind fun bt1015 => ((impl_Net_joined.f k bt1015.1 bt1015.2 ((rd_T73 x8 x10).f0) ((rd_T73 x8 x10).f1)).bind fun t1019 => (if t1019 = true then (impl_Net_bridges.l0 k x3 x8 x9 (wrap64 (x10 + 1)) x1007000 x1007001) else (if x3.length < 8796093022208 then (impl_Net_bridges.l0 k (x3 ++ [(⟨(rd_T73 x8 x10).f0, (rd_T73 x8 x10).f1⟩ : S73)]) x8 x9 (wrap64 (x10 + 1)) x1007000 x1007001) else (none))))) else (none)) else (none)) else (some x3)
def impl_Net_bridges.f (k : Nat) (a0_0 : Int) (l0_1 : List (S73)) : Option ((List (S73))) := impl_Net_bridges.l0 k (([] : List (S73))) l0_1 (l0_1.length : Int) 0 a0_0 l0_1
theorem impl_Net_bridges.mono_l : ∀ k, (∀ y0 y1 y2 y3 y4 y5, LeO (impl_Net_bridges.l0 k y0 y1 y2 y3 y4 y5) (impl_Net_bridges.l0 (k + 1) y0 y1 y2 y3 y4 y5))
 | 0 => fun _ _ _ _ _ _ r h => by simp [impl_Net_bridges.l0] at h
 | k + 1 => by
  have ih0 := impl_Net_bridges.mono_l k
  ·intro y0 y1 y2 y3 y4 y5
   unfold impl_Net_bridges.l0
   have m0_ := @impl_Net_joined.mono
   have m1_ := @impl_Net_less.mono
   exact mo_
theorem impl_Net_bridges.mono : ∀ a0 a1 k, LeO (impl_Net_bridges.f k a0 a1) (impl_Net_bridges.f (k + 1) a0 a1) := by
 intro a0 a1 k
 have ih0 := impl_Net_bridges.mono_l k
 unfold impl_Net_bridges.f
 have m0_ := @impl_Net_joined.mono
 have m1_ := @impl_Net_less.mono
 exact mo_
def impl_Net_bridges.T5 : Bool × List (List Nat × List Nat) := (true, [([], []), ([], []), ([1], [1]), ([0, 2], [0, 2]), ([], []), ([4], [4]), ([], []), ([6], [6]), ([3, 5, 7, 3], [3, 5, 7]), ([8], [8])])
def impl_Net_bridges.B5 : List Nat := [0, 0, 2, 7, 0, 16, 0, 64, 255, 511]
theorem impl_Net_bridges.tab5 : rtab .any (opsOf Try.f117 5) = impl_Net_bridges.T5 := by kernel_rfl
theorem impl_Net_bridges.bits5 : waitsOk impl_Net_bridges.T5.2 impl_Net_bridges.B5 = true := by kernel_rfl
set_option maxHeartbeats 8000000 in
set_option maxRecDepth 100000 in
theorem impl_Net_bridges.calls (k : Nat) (a0_0 : Int) (A0_1 : Option Addr) (c0_1 : Nat) (l0_1 : List (S73)) (r : List (S73)) (w : World) (hr0_1 : Kd.C k73 w A0_1 l0_1.length l0_1) (hc0_1 : l0_1.length ≤ c0_1) (h : impl_Net_bridges.f k a0_0 l0_1 = some r) :
  Calls Try.prog 117 #[.agg #[.int .i64 a0_0, .slice A0_1 l0_1.length c0_1]] w fun e w' => ∃ v0_ : Value, e = .returned (v0_) ∧ Kd.R k73 73 w' w.heap.size (fun _ => True) v0_ r ∧ Below w.heap.size w w' := by
 have hu34 := Try.underlying34
 have hu73 := Try.underlying73
 have HR0_1 := am hr0_1
 have HC0_1 := am hc0_1
 clear hr0_1 hc0_1
 have HB := am (Below.refl w.heap.size w)
 have H : (impl_Net_bridges.l0 k (([] : List (S73))) l0_1 (l0_1.length : Int) 0 a0_0 l0_1) = some r := h
 clear h
 obtain ⟨y1007, hy1007⟩ : ∃ y_ : List (S73), y_ = (([] : List (S73))) := ⟨_, rfl⟩
 replace H : (impl_Net_bridges.l0 k y1007 l0_1 (l0_1.length : Int) 0 a0_0 l0_1) = some r := nh_ hy1007 H
 have Ny1007 := am hy1007
 clear hy1007
 have H' := am H
 clear H
 go_enter Try.func117, Try.ntmps117
 go_wp2_with (first | ((with_reducible refine gate_dst (N := 1) rfl ?_); refine be_ 1 #[.int .i64 a0_0, .slice A0_1 l0_1.length c0_1] 34 ?_; intro gb1006 hg w2 hbox hb; have BK1006 := am hbox; have GW1006 := am (ge_ hg HB); have GE1006 := am (ge_ hg HB); replace HB := bs HB hb; clear hb hbox hg) | ((with_reducible refine gate_dst (N := 6) rfl ?_); refine Kd.R_lit k73 _ 73 ?hg (N := 6) ?hd (xs := ([] : List (S73))) (inner := []) (ok := fun _ => True) (okp := fun _ => True) ?hr ?hp (fun _ hk => hk) trivial (Below.refl _ _) (Nat.le_refl _) (by simp) ?_; (case hd => rfl); (case hg => rfl); (case hr => first | (go_simp; done) | (go_simp; rfl)); (case hp => exact (Reps.none _ _)); intro v1008 w3 ho4 hb hg_ hnew_; clear hg_ hnew_; (first | rw [← Ny1007.out] at ho4 | (simp only [Int.reduceToNat] at ho4; rw [← Ny1007.out] at ho4)); have HO1009 := am (Kd.R_lower ho4 (below_size (bn HB))); replace BK1006 := bb BK1006 hb; replace HB := bs HB hb; clear hb ho4; obtain ⟨hcz5_0, hcz5_1, hfz5_0, hfz5_1⟩ := c2 BK1006))
 go_loopg [3, 10] k (fun kq v3 v10 w' => ∃ (x3_1 : List (S73)) (x10_1 : Int), v10 = .int .i64 x10_1 ∧ Aside0 (impl_Net_bridges.l0 kq x3_1 l0_1 (l0_1.length : Int) x10_1 a0_0 l0_1 = some r) ∧ Aside0 (kq ≤ k) ∧ Aside0 (Kd.R k73 73 w' w.heap.size (fun _ => True) v3 x3_1) ∧ Aside0 (w'.heap[gb1006]? = some (.cells #[.int .i64 a0_0, (.slice A0_1 l0_1.length c0_1)] 34 (0, 0))) ∧ Aside0 (Below w.heap.size w w'))
 case atStart => exact ⟨(y1007), (0), (by first | rfl | (simp; done) | (simp [*]; done)), H', ⟨Nat.le_refl _⟩, ⟨onR HO1009⟩, ⟨bkn BK1006⟩, ⟨bn HB⟩⟩
 case round =>
  clear H'
  try clear c1
  try clear p2
  try clear hcz5_0 hcz5_1 hfz5_0 hfz5_1
  obtain ⟨x3_1, x10_1, rfl, HA, HK1, HO_3, BK1006, HB⟩ := hrel
  cases gk with
  | zero => exact absurd HA.out (by simp [impl_Net_bridges.l0])
  | succ k1 =>
   have H := HA.out
   clear HA
   simp only [impl_Net_bridges.l0] at H
   by_cases c6 : x10_1 < (l0_1.length : Int)
   ·rw [if_pos c6] at H
    have c6b0 := decide_eq_true c6
    clear c6
    obtain ⟨c7, H⟩ := ig_ H
    have c7b0 := decide_eq_true c7
    clear c7
    obtain ⟨c8, H⟩ := ig_ H
    have c8b0 := decide_eq_true c8
    clear c8
    obtain ⟨y1012, hy1012⟩ : ∃ y_ : List (S73), y_ = (([(⟨(rd_T73 l0_1 x10_1).f0, (rd_T73 l0_1 x10_1).f1⟩ : S73)] : List (S73))) := ⟨_, rfl⟩
    replace H : ((impl_Net_less.f k1 a0_0 l0_1 y1012).bind fun bt1015 => ((impl_Net_joined.f k1 bt1015.1 bt1015.2 ((rd_T73 l0_1 x10_1).f0) ((rd_T73 l0_1 x10_1).f1)).bind fun t1019 => (if t1019 = true then (impl_Net_bridges.l0 k1 x3_1 l0_1 (l0_1.length : Int) (wrap64 (x10_1 + 1)) a0_0 l0_1) else (if x3_1.length < 8796093022208 then (impl_Net_bridges.l0 k1 (x3_1 ++ [(⟨(rd_T73 l0_1 x10_1).f0, (rd_T73 l0_1 x10_1).f1⟩ : S73)]) l0_1 (l0_1.length : Int) (wrap64 (x10_1 + 1)) a0_0 l0_1) else (none))))) = some r := nh_ hy1012 H
    have Ny1012 := am hy1012
    clear hy1012
    replace H := Option.bind_eq_some_iff.mp H
    obtain ⟨⟨t1015, t1016⟩, A90, H⟩ := H
    (try dsimp only at H)
    have A9 := am A90
    clear A90
    replace H := Option.bind_eq_some_iff.mp H
    obtain ⟨t1019, A100, H⟩ := H
    (try dsimp only at H)
    have A10 := am A100
    clear A100
    by_cases c11 : t1019 = true
    ·subst c11
     rw [if_pos rfl] at H
     have H' := am H
     clear H
     have p1010 : 0 ≤ (x10_1 : Int) := oa
     have q1010 : x10_1 < (l0_1.length : Int) := oa
     obtain ⟨ad1010, e1010, hx1010_0, hx1010_1⟩ := at_T73 HR0_1.out x10_1 p1010 q1010
     cases e1010
     replace hx1010_0 := (HB.out.cell (World.block_lt_of_cell? w _ hx1010_0)).trans hx1010_0
     replace hx1010_1 := (HB.out.cell (World.block_lt_of_cell? w _ hx1010_1)).trans hx1010_1
     replace p1010 := eq_true p1010
     replace q1010 := eq_true q1010
     try go_wp2_with (first | ((with_reducible refine gate_dst (N := 5) rfl ?_); refine be_ 5 #[.int .i64 0, .int .i64 0] 73 ?_; intro gb1011 hg w12 hbox hb; replace HO_3 := am (Kd.R_below (Kd.R_elderB (onR HO_3) gb1011 (Nat.le_of_eq hg.symm)) hb); have BK1011 := am hbox; have GW1011 := am (ge_ hg HB); have GE1011 := am (ge_ hg HB); replace HB := bs HB hb; obtain ⟨NB1006_1011, NB1011_1006⟩ := nb_ hg BK1006; replace BK1006 := bb BK1006 hb; clear hb hbox hg; obtain ⟨hnb13, hnc13⟩ := n2 NB1011_1006 NB1006_1011; obtain ⟨hcz14_0, hcz14_1, hfz14_0, hfz14_1⟩ := c2 BK1011))
     have n0_ : Aside0 (Kd.R k73 73 ((w12.setCell ⟨gb1011, 0, none⟩ (.int .i64 ((rd_T73 l0_1 x10_1).f0))).setCell ⟨gb1011, 1, none⟩ (.int .i64 ((rd_T73 l0_1 x10_1).f1))) w.heap.size (fun k_ => k_ ≠ gb1011) u3 x3_1) := ⟨by (with_reducible repeat (first | apply Kd.R_alloc | apply Kd.R_drewN | apply Kd.R_drew)); exact Kd.R_mono (Kd.R_far (p := ⟨gb1011, 1, none⟩) (Kd.R_far (p := ⟨gb1011, 0, none⟩) (Kd.R_mono HO_3.out (fun k_ hk => (⟨hk, hk.2⟩ : _ ∧ k_ ≠ gb1011))) (fun _ hk => hk.2) (.int .i64 ((rd_T73 l0_1 x10_1).f0))) (fun _ hk => hk.2) (.int .i64 ((rd_T73 l0_1 x10_1).f1))) (fun _ hk => hk.1.2)⟩
     have n1_ : Aside0 (((w12.setCell ⟨gb1011, 0, none⟩ (.int .i64 ((rd_T73 l0_1 x10_1).f0))).setCell ⟨gb1011, 1, none⟩ (.int .i64 ((rd_T73 l0_1 x10_1).f1))).heap[gb1006]? = some (.cells #[.int .i64 a0_0, .slice (some ad1010) l0_1.length c0_1] 34 (0, 0))) := ⟨bkn BK1006⟩
     have n2_ : Aside0 (((w12.setCell ⟨gb1011, 0, none⟩ (.int .i64 ((rd_T73 l0_1 x10_1).f0))).setCell ⟨gb1011, 1, none⟩ (.int .i64 ((rd_T73 l0_1 x10_1).f1))).heap[gb1011]? = some (.cells #[.int .i64 ((rd_T73 l0_1 x10_1).f0), .int .i64 ((rd_T73 l0_1 x10_1).f1)] 73 (0, 0))) := ⟨by (with_reducible repeat (first | refine blk_drewN ?_ _ | refine blk_drew ?_ | refine blk_alloc ?_ _)); refine blk_put (cs := #[.int .i64 ((rd_T73 l0_1 x10_1).f0), .int .i64 0]) ?_ 1 _ rfl; (with_reducible repeat (first | refine blk_drewN ?_ _ | refine blk_drew ?_ | refine blk_alloc ?_ _)); refine blk_put (cs := #[.int .i64 0, .int .i64 0]) ?_ 0 _ rfl; (with_reducible repeat (first | refine blk_drewN ?_ _ | refine blk_drew ?_ | refine blk_alloc ?_ _)); exact BK1011.out⟩
     have n3_ : Aside0 (Below w.heap.size w ((w12.setCell ⟨gb1011, 0, none⟩ (.int .i64 ((rd_T73 l0_1 x10_1).f0))).setCell ⟨gb1011, 1, none⟩ (.int .i64 ((rd_T73 l0_1 x10_1).f1)))) := ⟨bn HB⟩
     (try clear HO_3)
     (try clear BK1006)
     (try clear BK1011)
     (try clear HB)
     generalize ((w12.setCell ⟨gb1011, 0, none⟩ (.int .i64 ((rd_T73 l0_1 x10_1).f0))).setCell ⟨gb1011, 1, none⟩ (.int .i64 ((rd_T73 l0_1 x10_1).f1))) = w15 at n0_ n1_ n2_ n3_ ⊢
     have HO_3 := n0_
     have BK1006 := n1_
     have BK1011 := n2_
     have HB := n3_
     clear n0_ n1_ n2_ n3_
     replace HO_3 := am (Kd.R_drew HO_3.out)
     replace BK1006 := am (blk_drew BK1006.out)
     replace BK1011 := am (blk_drew BK1011.out)
     replace HB := am (below_drew1 HB.out)
     refine start_ (n := 10) (S := fun w' => w'.cell? ⟨gb1006, 0, none⟩ = some (.int .i64 a0_0) ∧ w'.cell? ⟨gb1006, 1, none⟩ = some (.slice (some ad1010) l0_1.length c0_1) ∧ w'.cell? ⟨gb1011, 0, none⟩ = some (.int .i64 ((rd_T73 l0_1 x10_1).f0)) ∧ w'.cell? ⟨gb1011, 1, none⟩ = some (.int .i64 ((rd_T73 l0_1 x10_1).f1))) (ds := []) #[false, false, false, false, false, false, false, false, false, false] (by kernel_rfl) rfl rfl ⟨(bc BK1006 0), (bc BK1006 1), (bc BK1011 0), (bc BK1011 1)⟩ (fun hHeld => ?_); refine with_tabW impl_Net_bridges.tab5 impl_Net_bridges.bits5 (fun HT_ HW_ => ?_)
     generalize w15.drew = w16 at HO_3 BK1006 BK1011 HB hHeld ⊢
     refine pz_ 4 (some 18) HT_ ?_
     refine pz_ 6 (some 20) HT_ ?_
     refine tz_ 0 (some 14) HT_ HW_ hHeld ?_
     refine tz_ 1 (some 15) HT_ HW_ hHeld ?_
     refine tz_ 5 (some 19) HT_ HW_ hHeld ?_
     refine tz_ 7 (some 21) HT_ HW_ hHeld ?_
     refine one_ (i := 2) (N := some 16) #[true, true, true, false, true, true, true, true, false, false] rfl rfl (one_of HT_.out (by kernel_rfl)) (by decide) (fun K hK => ?_)
     refine Kd.R_lit_step k73 _ 73 ?hg (N := 16) ?hd (xs := ([(⟨(rd_T73 l0_1 x10_1).f0, (rd_T73 l0_1 x10_1).f1⟩ : S73)] : List (S73))) (inner := [.int .i64 ((rd_T73 l0_1 x10_1).f0), .int .i64 ((rd_T73 l0_1 x10_1).f1)]) (ok := fun _ => True) (okp := fun _ => True) ?hr ?hp (fun _ hk => hk) trivial (Below.refl _ _) (Nat.le_refl _) (by simp) ?_; (case hd => rfl); (case hg => rfl); (case hr => first | (go_simp; done) | (go_simp; rfl)); (case hp => exact (Reps.c2 (show Kd.M k73 _ _ _ (⟨(rd_T73 l0_1 x10_1).f0, (rd_T73 l0_1 x10_1).f1⟩ : S73) [.int .i64 ((rd_T73 l0_1 x10_1).f0), .int .i64 ((rd_T73 l0_1 x10_1).f1)] from (k73_mkM _ _ _ (⟨(rd_T73 l0_1 x10_1).f0, (rd_T73 l0_1 x10_1).f1⟩ : S73) )) (Reps.none _ _)))
     intro v1013 w17 ho18 hb hg_ hnew_
     clear hg_ hnew_
     (first | rw [← Ny1012.out] at ho18 | (simp only [Int.reduceToNat] at ho18; rw [← Ny1012.out] at ho18))
     have n0_ := am (Kd.R_elder' (onR HO_3) (Kd.R_base ho18) hb)
     have n1_ := am (Kd.R_lower (Kd.R_newB (Kd.R_new' ho18 (Kd.R_lt (onR HO_3))) (bkn BK1011)) (below_size (bn HB)))
     have n2_ := bb BK1006 hb
     have n3_ := bb BK1011 hb
     have n4_ := bs HB hb
     clear HO_3 BK1006 BK1011 HB
     have HO_3 := n0_
     have HO1014 := n1_
     have BK1006 := n2_
     have BK1011 := n3_
     have HB := n4_
     clear n0_ n1_ n2_ n3_ n4_ hb ho18
     obtain ⟨Ao19, co19, eo19⟩ := Kd.R_slice HO1014.out
     (first | subst eo19 | (injection eo19 with f1_ f2_ f3_; have f4_ := f1_.symm; have f5_ := f3_.symm; clear f1_ f2_ f3_; subst f4_; subst f5_))
     refine hK.out _ _ ⟨(bc BK1006 0), (bc BK1006 1), (bc BK1011 0), (bc BK1011 1)⟩ (fun hHeld => ?_)
     clear hK K
     refine nz_ 16 ?_
     refine one_ (i := 3) (N := some 17) #[true, true, true, true, true, true, true, true, false, false] rfl rfl (one_of HT_.out (by kernel_rfl)) (by decide) (fun K hK => ?_)
     refine gg_ Try.func106 #[.agg #[.int .i64 a0_0, .slice (some ad1010) l0_1.length c0_1], .slice Ao19 y1012.length co19] ?_
     with_reducible refine (impl_Net_less.calls k1 a0_0 _ _ l0_1 _ _ y1012 t1015 t1016 _ ?side1 ?side2 ?side3 ?side4 A9.out).mono ?_
     (case side1 => exact cb HR0_1 HB)
     (case side2 => exact HC0_1.out)
     (case side3 => exact (Kd.R_reads' (onR HO1014)).2.2)
     (case side4 => exact (Kd.R_reads' HO1014.out).2.1)
     rintro e w20 ⟨v1017, rfl, ho0, hb⟩
     refine ⟨_, rfl, ?_⟩
     have HO1018 := am (Kd.R_lower (Kd.R_newB (Kd.R_new' (Kd.R_new' ho0 (Kd.R_lt (onR HO_3))) (Kd.R_lt (onR HO1014))) (bkn BK1011)) (below_size (bn HB)))
     replace HO_3 := am (Kd.R_elder' (onR HO_3) (Kd.R_base ho0) hb)
     replace HO1014 := am (Kd.R_elder' (onR HO1014) (Kd.R_base ho0) hb)
     replace BK1006 := bb BK1006 hb
     replace BK1011 := bb BK1011 hb
     replace HB := bs HB hb
     (try clear hb)
     (try clear hb2)
     (try clear hk)
     (try clear hi)
     (try clear ho0)
     obtain ⟨Ao21, co21, eo21⟩ := Kd.R_slice HO1018.out
     (first | subst eo21 | (injection eo21 with f1_ f2_ f3_; have f4_ := f1_.symm; have f5_ := f3_.symm; clear f1_ f2_ f3_; subst f4_; subst f5_))
     refine hK.out _ _ ⟨(bc BK1006 0), (bc BK1006 1), (bc BK1011 0), (bc BK1011 1)⟩ (fun hHeld => ?_)
     clear hK K
     refine nz_ 17 ?_
     refine one_ (i := 8) (N := some 22) #[true, true, true, true, true, true, true, true, true, false] rfl rfl (one_of HT_.out (by kernel_rfl)) (by decide) (fun K hK => ?_)
     refine gg_ Try.func99 #[.agg #[.int .i64 t1015, .slice Ao21 t1016.length co21], .int .i64 ((rd_T73 l0_1 x10_1).f0), .int .i64 ((rd_T73 l0_1 x10_1).f1)] ?_
     with_reducible refine (impl_Net_joined.calls k1 t1015 _ _ t1016 ((rd_T73 l0_1 x10_1).f0) ((rd_T73 l0_1 x10_1).f1) true _ ?side1 ?side2 A10.out).mono ?_
     (case side1 => exact (Kd.R_reads' (onR HO1018)).2.2)
     (case side2 => exact (Kd.R_reads' HO1018.out).2.1)
     rintro e w22 ⟨rfl, hb⟩
     refine ⟨_, rfl, ?_⟩
     replace HO_3 := am (Kd.R_below (onR HO_3) hb)
     replace HO1014 := am (Kd.R_below (onR HO1014) hb)
     replace HO1018 := am (Kd.R_below (onR HO1018) hb)
     replace BK1006 := bb BK1006 hb
     replace BK1011 := bb BK1011 hb
     replace HB := bs HB hb
     (try clear hb)
     (try clear hb2)
     (try clear hk)
     (try clear hi)
     refine hK.out _ _ ⟨(bc BK1006 0), (bc BK1006 1), (bc BK1011 0), (bc BK1011 1)⟩ (fun hHeld => ?_)
     clear hK K
     refine nz_ 22 ?_
     refine pz_ 9 (some 23) HT_ ?_
     refine done_ (done_of HT_.out (by kernel_rfl)) ?_
     try go_wp2
     go_roundg k1
     case measure => have := HK1.out; omega
     case rel => exact ⟨(x3_1), (wrap64 (x10_1 + 1)), (by first | rfl | (simp; done) | (simp [*]; done)), H', ⟨by have := HK1.out; omega⟩, ⟨by (with_reducible repeat (first | apply Kd.R_alloc | apply Kd.R_drewN | apply Kd.R_drew)); exact Kd.R_mono HO_3.out (fun _ hk => trivial)⟩, ⟨bkn BK1006⟩, ⟨bn HB⟩⟩
    ·replace c11 := Bool.eq_false_iff.mpr c11
     subst c11
     rw [if_neg (show ¬ (false = true) by decide)] at H
     obtain ⟨c23, H⟩ := ig_ H
     have LMc23 := am c23
     clear c23
     obtain ⟨y1020, hy1020⟩ : ∃ y_ : List (S73), y_ = (x3_1 ++ [(⟨(rd_T73 l0_1 x10_1).f0, (rd_T73 l0_1 x10_1).f1⟩ : S73)]) := ⟨_, rfl⟩
     replace H : (impl_Net_bridges.l0 k1 y1020 l0_1 (l0_1.length : Int) (wrap64 (x10_1 + 1)) a0_0 l0_1) = some r := nh_ hy1020 H
     have Ny1020 := am hy1020
     clear hy1020
     have H' := am H
     clear H
     have p1010 : 0 ≤ (x10_1 : Int) := oa
     have q1010 : x10_1 < (l0_1.length : Int) := oa
     obtain ⟨ad1010, e1010, hx1010_0, hx1010_1⟩ := at_T73 HR0_1.out x10_1 p1010 q1010
     cases e1010
     replace hx1010_0 := (HB.out.cell (World.block_lt_of_cell? w _ hx1010_0)).trans hx1010_0
     replace hx1010_1 := (HB.out.cell (World.block_lt_of_cell? w _ hx1010_1)).trans hx1010_1
     replace p1010 := eq_true p1010
     replace q1010 := eq_true q1010
     try go_wp2_with (first | ((with_reducible refine gate_dst (N := 5) rfl ?_); refine be_ 5 #[.int .i64 0, .int .i64 0] 73 ?_; intro gb1011 hg w24 hbox hb; replace HO_3 := am (Kd.R_below (Kd.R_elderB (onR HO_3) gb1011 (Nat.le_of_eq hg.symm)) hb); have BK1011 := am hbox; have GW1011 := am (ge_ hg HB); have GE1011 := am (ge_ hg HB); replace HB := bs HB hb; obtain ⟨NB1006_1011, NB1011_1006⟩ := nb_ hg BK1006; replace BK1006 := bb BK1006 hb; clear hb hbox hg; obtain ⟨hnb25, hnc25⟩ := n2 NB1011_1006 NB1006_1011; obtain ⟨hcz26_0, hcz26_1, hfz26_0, hfz26_1⟩ := c2 BK1011))
     have n0_ : Aside0 (Kd.R k73 73 ((w24.setCell ⟨gb1011, 0, none⟩ (.int .i64 ((rd_T73 l0_1 x10_1).f0))).setCell ⟨gb1011, 1, none⟩ (.int .i64 ((rd_T73 l0_1 x10_1).f1))) w.heap.size (fun k_ => k_ ≠ gb1011) u3 x3_1) := ⟨by (with_reducible repeat (first | apply Kd.R_alloc | apply Kd.R_drewN | apply Kd.R_drew)); exact Kd.R_mono (Kd.R_far (p := ⟨gb1011, 1, none⟩) (Kd.R_far (p := ⟨gb1011, 0, none⟩) (Kd.R_mono HO_3.out (fun k_ hk => (⟨hk, hk.2⟩ : _ ∧ k_ ≠ gb1011))) (fun _ hk => hk.2) (.int .i64 ((rd_T73 l0_1 x10_1).f0))) (fun _ hk => hk.2) (.int .i64 ((rd_T73 l0_1 x10_1).f1))) (fun _ hk => hk.1.2)⟩
     have n1_ : Aside0 (((w24.setCell ⟨gb1011, 0, none⟩ (.int .i64 ((rd_T73 l0_1 x10_1).f0))).setCell ⟨gb1011, 1, none⟩ (.int .i64 ((rd_T73 l0_1 x10_1).f1))).heap[gb1006]? = some (.cells #[.int .i64 a0_0, .slice (some ad1010) l0_1.length c0_1] 34 (0, 0))) := ⟨bkn BK1006⟩
     have n2_ : Aside0 (((w24.setCell ⟨gb1011, 0, none⟩ (.int .i64 ((rd_T73 l0_1 x10_1).f0))).setCell ⟨gb1011, 1, none⟩ (.int .i64 ((rd_T73 l0_1 x10_1).f1))).heap[gb1011]? = some (.cells #[.int .i64 ((rd_T73 l0_1 x10_1).f0), .int .i64 ((rd_T73 l0_1 x10_1).f1)] 73 (0, 0))) := ⟨by (with_reducible repeat (first | refine blk_drewN ?_ _ | refine blk_drew ?_ | refine blk_alloc ?_ _)); refine blk_put (cs := #[.int .i64 ((rd_T73 l0_1 x10_1).f0), .int .i64 0]) ?_ 1 _ rfl; (with_reducible repeat (first | refine blk_drewN ?_ _ | refine blk_drew ?_ | refine blk_alloc ?_ _)); refine blk_put (cs := #[.int .i64 0, .int .i64 0]) ?_ 0 _ rfl; (with_reducible repeat (first | refine blk_drewN ?_ _ | refine blk_drew ?_ | refine blk_alloc ?_ _)); exact BK1011.out⟩
     have n3_ : Aside0 (Below w.heap.size w ((w24.setCell ⟨gb1011, 0, none⟩ (.int .i64 ((rd_T73 l0_1 x10_1).f0))).setCell ⟨gb1011, 1, none⟩ (.int .i64 ((rd_T73 l0_1 x10_1).f1)))) := ⟨bn HB⟩
     (try clear HO_3)
     (try clear BK1006)
     (try clear BK1011)
     (try clear HB)
     generalize ((w24.setCell ⟨gb1011, 0, none⟩ (.int .i64 ((rd_T73 l0_1 x10_1).f0))).setCell ⟨gb1011, 1, none⟩ (.int .i64 ((rd_T73 l0_1 x10_1).f1))) = w27 at n0_ n1_ n2_ n3_ ⊢
     have HO_3 := n0_
     have BK1006 := n1_
     have BK1011 := n2_
     have HB := n3_
     clear n0_ n1_ n2_ n3_
     replace HO_3 := am (Kd.R_drew HO_3.out)
     replace BK1006 := am (blk_drew BK1006.out)
     replace BK1011 := am (blk_drew BK1011.out)
     replace HB := am (below_drew1 HB.out)
     refine start_ (n := 10) (S := fun w' => w'.cell? ⟨gb1006, 0, none⟩ = some (.int .i64 a0_0) ∧ w'.cell? ⟨gb1006, 1, none⟩ = some (.slice (some ad1010) l0_1.length c0_1) ∧ w'.cell? ⟨gb1011, 0, none⟩ = some (.int .i64 ((rd_T73 l0_1 x10_1).f0)) ∧ w'.cell? ⟨gb1011, 1, none⟩ = some (.int .i64 ((rd_T73 l0_1 x10_1).f1))) (ds := []) #[false, false, false, false, false, false, false, false, false, false] (by kernel_rfl) rfl rfl ⟨(bc BK1006 0), (bc BK1006 1), (bc BK1011 0), (bc BK1011 1)⟩ (fun hHeld => ?_); refine with_tabW impl_Net_bridges.tab5 impl_Net_bridges.bits5 (fun HT_ HW_ => ?_)
     generalize w27.drew = w28 at HO_3 BK1006 BK1011 HB hHeld ⊢
     refine pz_ 4 (some 18) HT_ ?_
     refine pz_ 6 (some 20) HT_ ?_
     refine tz_ 0 (some 14) HT_ HW_ hHeld ?_
     refine tz_ 1 (some 15) HT_ HW_ hHeld ?_
     refine tz_ 5 (some 19) HT_ HW_ hHeld ?_
     refine tz_ 7 (some 21) HT_ HW_ hHeld ?_
     refine one_ (i := 2) (N := some 16) #[true, true, true, false, true, true, true, true, false, false] rfl rfl (one_of HT_.out (by kernel_rfl)) (by decide) (fun K hK => ?_)
     refine Kd.R_lit_step k73 _ 73 ?hg (N := 16) ?hd (xs := ([(⟨(rd_T73 l0_1 x10_1).f0, (rd_T73 l0_1 x10_1).f1⟩ : S73)] : List (S73))) (inner := [.int .i64 ((rd_T73 l0_1 x10_1).f0), .int .i64 ((rd_T73 l0_1 x10_1).f1)]) (ok := fun _ => True) (okp := fun _ => True) ?hr ?hp (fun _ hk => hk) trivial (Below.refl _ _) (Nat.le_refl _) (by simp) ?_; (case hd => rfl); (case hg => rfl); (case hr => first | (go_simp; done) | (go_simp; rfl)); (case hp => exact (Reps.c2 (show Kd.M k73 _ _ _ (⟨(rd_T73 l0_1 x10_1).f0, (rd_T73 l0_1 x10_1).f1⟩ : S73) [.int .i64 ((rd_T73 l0_1 x10_1).f0), .int .i64 ((rd_T73 l0_1 x10_1).f1)] from (k73_mkM _ _ _ (⟨(rd_T73 l0_1 x10_1).f0, (rd_T73 l0_1 x10_1).f1⟩ : S73) )) (Reps.none _ _)))
     intro v1013 w29 ho30 hb hg_ hnew_
     clear hg_ hnew_
     (first | rw [← Ny1012.out] at ho30 | (simp only [Int.reduceToNat] at ho30; rw [← Ny1012.out] at ho30))
     have n0_ := am (Kd.R_elder' (onR HO_3) (Kd.R_base ho30) hb)
     have n1_ := am (Kd.R_lower (Kd.R_newB (Kd.R_new' ho30 (Kd.R_lt (onR HO_3))) (bkn BK1011)) (below_size (bn HB)))
     have n2_ := bb BK1006 hb
     have n3_ := bb BK1011 hb
     have n4_ := bs HB hb
     clear HO_3 BK1006 BK1011 HB
     have HO_3 := n0_
     have HO1014 := n1_
     have BK1006 := n2_
     have BK1011 := n3_
     have HB := n4_
     clear n0_ n1_ n2_ n3_ n4_ hb ho30
     obtain ⟨Ao31, co31, eo31⟩ := Kd.R_slice HO1014.out
     (first | subst eo31 | (injection eo31 with f1_ f2_ f3_; have f4_ := f1_.symm; have f5_ := f3_.symm; clear f1_ f2_ f3_; subst f4_; subst f5_))
     refine hK.out _ _ ⟨(bc BK1006 0), (bc BK1006 1), (bc BK1011 0), (bc BK1011 1)⟩ (fun hHeld => ?_)
     clear hK K
     refine nz_ 16 ?_
     refine one_ (i := 3) (N := some 17) #[true, true, true, true, true, true, true, true, false, false] rfl rfl (one_of HT_.out (by kernel_rfl)) (by decide) (fun K hK => ?_)
     refine gg_ Try.func106 #[.agg #[.int .i64 a0_0, .slice (some ad1010) l0_1.length c0_1], .slice Ao31 y1012.length co31] ?_
     with_reducible refine (impl_Net_less.calls k1 a0_0 _ _ l0_1 _ _ y1012 t1015 t1016 _ ?side1 ?side2 ?side3 ?side4 A9.out).mono ?_
     (case side1 => exact cb HR0_1 HB)
     (case side2 => exact HC0_1.out)
     (case side3 => exact (Kd.R_reads' (onR HO1014)).2.2)
     (case side4 => exact (Kd.R_reads' HO1014.out).2.1)
     rintro e w32 ⟨v1017, rfl, ho0, hb⟩
     refine ⟨_, rfl, ?_⟩
     have HO1018 := am (Kd.R_lower (Kd.R_newB (Kd.R_new' (Kd.R_new' ho0 (Kd.R_lt (onR HO_3))) (Kd.R_lt (onR HO1014))) (bkn BK1011)) (below_size (bn HB)))
     replace HO_3 := am (Kd.R_elder' (onR HO_3) (Kd.R_base ho0) hb)
     replace HO1014 := am (Kd.R_elder' (onR HO1014) (Kd.R_base ho0) hb)
     replace BK1006 := bb BK1006 hb
     replace BK1011 := bb BK1011 hb
     replace HB := bs HB hb
     (try clear hb)
     (try clear hb2)
     (try clear hk)
     (try clear hi)
     (try clear ho0)
     obtain ⟨Ao33, co33, eo33⟩ := Kd.R_slice HO1018.out
     (first | subst eo33 | (injection eo33 with f1_ f2_ f3_; have f4_ := f1_.symm; have f5_ := f3_.symm; clear f1_ f2_ f3_; subst f4_; subst f5_))
     refine hK.out _ _ ⟨(bc BK1006 0), (bc BK1006 1), (bc BK1011 0), (bc BK1011 1)⟩ (fun hHeld => ?_)
     clear hK K
     refine nz_ 17 ?_
     refine one_ (i := 8) (N := some 22) #[true, true, true, true, true, true, true, true, true, false] rfl rfl (one_of HT_.out (by kernel_rfl)) (by decide) (fun K hK => ?_)
     refine gg_ Try.func99 #[.agg #[.int .i64 t1015, .slice Ao33 t1016.length co33], .int .i64 ((rd_T73 l0_1 x10_1).f0), .int .i64 ((rd_T73 l0_1 x10_1).f1)] ?_
     with_reducible refine (impl_Net_joined.calls k1 t1015 _ _ t1016 ((rd_T73 l0_1 x10_1).f0) ((rd_T73 l0_1 x10_1).f1) false _ ?side1 ?side2 A10.out).mono ?_
     (case side1 => exact (Kd.R_reads' (onR HO1018)).2.2)
     (case side2 => exact (Kd.R_reads' HO1018.out).2.1)
     rintro e w34 ⟨rfl, hb⟩
     refine ⟨_, rfl, ?_⟩
     replace HO_3 := am (Kd.R_below (onR HO_3) hb)
     replace HO1014 := am (Kd.R_below (onR HO1014) hb)
     replace HO1018 := am (Kd.R_below (onR HO1018) hb)
     replace BK1006 := bb BK1006 hb
     replace BK1011 := bb BK1011 hb
     replace HB := bs HB hb
     (try clear hb)
     (try clear hb2)
     (try clear hk)
     (try clear hi)
     refine hK.out _ _ ⟨(bc BK1006 0), (bc BK1006 1), (bc BK1011 0), (bc BK1011 1)⟩ (fun hHeld => ?_)
     clear hK K
     refine nz_ 22 ?_
     refine pz_ 9 (some 23) HT_ ?_
     refine done_ (done_of HT_.out (by kernel_rfl)) ?_
     obtain ⟨hcz35_0, hcz35_1, hfz35_0, hfz35_1⟩ := c2 BK1011
     try go_wp2_with (first | ((with_reducible refine gate_builtin (b := .append) (xs := #[.tmp 24, .tmp 26]) rfl ?_); at_builtin; refine Kd.R_append k73 (w0 := w) w.heap.size rfl (.tmp 24) (.tmp 26) 32 73 (.agg #[(.int .i64 0), (.int .i64 0)]) 16 rfl Try.underlying32 info73 rfl (by decide) (by omega) u3 x3_1 (⟨(rd_T73 l0_1 x10_1).f0, (rd_T73 l0_1 x10_1).f1⟩ : S73) [.int .i64 ((rd_T73 l0_1 x10_1).f0), .int .i64 ((rd_T73 l0_1 x10_1).f1)] (fun k_ => some k_ ≠ (.slice Ao31 y1012.length co31 : Value).ownBlock ∧ some k_ ≠ (.slice Ao33 t1016.length co33 : Value).ownBlock ∧ k_ ≠ gb1011) (fun _ => False) rfl rfl ?aP (fun _ hk => hk.elim) ?aF ?aO ?aB ?aS ?aL ?_; (case aP => exact k73_mkM _ _ _ (⟨(rd_T73 l0_1 x10_1).f0, (rd_T73 l0_1 x10_1).f1⟩ : S73)); (case aB => exact (bn HB)); (case aF => exact (fun k_ hk => ⟨Kd.fresh' (Kd.R_lt (onR HO1014)) k_ hk, Kd.fresh' (Kd.R_lt (onR HO1018)) k_ hk, Kd.freshB (bkn BK1011) k_ hk⟩)); (case aO => exact (by (with_reducible repeat (first | apply Kd.R_alloc | apply Kd.R_drewN | apply Kd.R_drew)); exact Kd.R_mono HO_3.out (fun _ hk => ⟨hk.1.2, ⟨hk.2, hk.1.1⟩⟩))); (case aS => exact (below_size (bn HB))); (case aL => have := LMc23.out; omega); intro v1021 w36 ho hb hg hat; rw [← Ny1020.out] at ho; replace BK1006 := am (blk_grown (bkn BK1006) hg (Kd.R_ne HO_3.out BK1006.out (by decide))); replace BK1011 := am (blk_grown (bkn BK1011) hg (Kd.R_away HO_3.out (fun _ hk => hk.1.1))); replace HO1014 := am (Kd.R_after (ok := (fun k_ => some k_ ≠ (.slice Ao33 t1016.length co33 : Value).ownBlock ∧ k_ ≠ gb1011)) (by (with_reducible repeat (first | apply Kd.R_alloc | apply Kd.R_drewN | apply Kd.R_drew)); exact Kd.R_mono HO1014.out (fun _ hk => ⟨⟨hk.2, hk.1.2⟩, hk.1.1.2⟩)) hg hat); replace HO1018 := am (Kd.R_after (ok := (fun k_ => some k_ ≠ (.slice Ao31 y1012.length co31 : Value).ownBlock ∧ k_ ≠ gb1011)) (by (with_reducible repeat (first | apply Kd.R_alloc | apply Kd.R_drewN | apply Kd.R_drew)); exact Kd.R_mono HO1018.out (fun _ hk => ⟨⟨hk.1.2, hk.2⟩, hk.1.1.2⟩)) hg hat); replace HB := am hb; have HO1022 := am ho; clear HO_3; clear ho hb hg hat))
     go_roundg k1
     case measure => have := HK1.out; omega
     case rel => exact ⟨(y1020), (wrap64 (x10_1 + 1)), (by first | rfl | (simp; done) | (simp [*]; done)), H', ⟨by have := HK1.out; omega⟩, ⟨by (with_reducible repeat (first | apply Kd.R_alloc | apply Kd.R_drewN | apply Kd.R_drew)); exact Kd.R_mono HO1022.out (fun _ hk => trivial)⟩, ⟨bkn BK1006⟩, ⟨bn HB⟩⟩
   ·rw [if_neg c6] at H
    have c6b0 := decide_eq_false c6
    clear c6
    obtain rfl := Option.some.inj H
    go_wp2
    go_ret
    exact ⟨_, by first | rfl | (simp [errW_none, errW_some] <;> rfl) | (simp [*, errW_none, errW_some] <;> rfl), onR HO_3, bn HB⟩

end Go.Proofs.Ytdlnnjgjfngccaa.F
