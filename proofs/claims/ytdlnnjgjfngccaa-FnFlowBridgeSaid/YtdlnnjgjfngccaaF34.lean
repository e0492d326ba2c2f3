-- Written by oprint.py (wip/tools) over the kit's print program, for this seat.
import Derived.Test.YtdlnnjgjfngccaaF0
namespace Go.Proofs.Ytdlnnjgjfngccaa.F
open Go.RowKit Go.Proofs.YtdlnnjgjfngccaaW.PrintWords Go.Proofs.YtdlnnjgjfngccaaW.PrintLast Go.Proofs.YtdlnnjgjfngccaaW.PrintMore
attribute [local go_sem] max2_int min2_int max_two min_two max_three min_three max_four min_four   -- for this text's walks alone
set_option linter.unusedVariables false
set_option linter.unusedSimpArgs false

/-! ### spec_l1Copy: function 102 -/
def spec_l1Copy.f (a0_0 : Int) (l0_1 : List (S73)) : Option (Int × (List (S73))) := (some (([] : List (S73)) : List (S73))).bind fun y474 => (if y474.length + l0_1.length < 8796093022208 then (some (a0_0, (y474 ++ l0_1))) else (none))
def spec_l1Copy.T1 : Bool × List (List Nat × List Nat) := (true, [([], []), ([0], [0]), ([], []), ([], []), ([3], [3]), ([2, 4], [2, 4]), ([1, 5], [1, 5]), ([6, 5, 0, 1, 2, 3, 4, 5, 6], [6])])
def spec_l1Copy.B1 : List Nat := [0, 1, 0, 0, 8, 28, 63, 127]
theorem spec_l1Copy.tab1 : rtab .any (opsOf Try.f102 1) = spec_l1Copy.T1 := by kernel_rfl
theorem spec_l1Copy.bits1 : waitsOk spec_l1Copy.T1.2 spec_l1Copy.B1 = true := by kernel_rfl
set_option maxHeartbeats 8000000 in
set_option maxRecDepth 100000 in
theorem spec_l1Copy.calls (a0_0 : Int) (A0_1 : Option Addr) (c0_1 : Nat) (l0_1 : List (S73)) (r1 : Int) (r2 : List (S73)) (w : World) (hr0_1 : Kd.C k73 w A0_1 l0_1.length l0_1) (hc0_1 : l0_1.length ≤ c0_1) (h : spec_l1Copy.f a0_0 l0_1 = some (r1, r2)) :
  Calls Try.prog 102 #[.agg #[.int .i64 a0_0, .slice A0_1 l0_1.length c0_1]] w fun e w' => ∃ v1_ : Value, e = .returned (.agg #[.int .i64 r1, v1_]) ∧ Kd.R k73 73 w' w.heap.size (fun _ => True) v1_ r2 ∧ Below w.heap.size w w' := by
 have hu34 := Try.underlying34
 have HR0_1 := am hr0_1
 have HC0_1 := am hc0_1
 clear hr0_1 hc0_1
 have HB := am (Below.refl w.heap.size w)
 have H : ((some (([] : List (S73)) : List (S73))).bind fun y474 => (if y474.length + l0_1.length < 8796093022208 then (some (a0_0, (y474 ++ l0_1))) else (none))) = some (r1, r2) := h
 clear h
 obtain ⟨y474, hy474⟩ : ∃ y_ : List (S73), y_ = (([] : List (S73))) := ⟨_, rfl⟩
 replace H : (if y474.length + l0_1.length < 8796093022208 then (some (a0_0, (y474 ++ l0_1))) else (none)) = some (r1, r2) := nh_ hy474 H
 have Ny474 := am hy474
 clear hy474
 obtain ⟨c2, H⟩ := ig_ H
 have LMc2 := am c2
 clear c2
 obtain ⟨y477, hy477⟩ : ∃ y_ : List (S73), y_ = (y474 ++ l0_1) := ⟨_, rfl⟩
 replace H : (some (a0_0, y477)) = some (r1, r2) := nh_ hy477 H
 have Ny477 := am hy477
 clear hy477
 simp only [Option.some.injEq, Prod.mk.injEq] at H
 obtain ⟨rfl, rfl⟩ := H
 go_enter Try.func102, Try.ntmps102
 try go_wp2_with (first | ((with_reducible refine gate_dst (N := 1) rfl ?_); refine be_ 1 #[.int .i64 a0_0, .slice A0_1 l0_1.length c0_1] 34 ?_; intro gb472 hg w3 hbox hb; have BK472 := am hbox; have GW472 := am (ge_ hg HB); have GE472 := am (ge_ hg HB); replace HB := bs HB hb; clear hb hbox hg) | ((with_reducible refine gate_dst (N := 2) rfl ?_); refine be_ 2 #[.int .i64 0, .slice none 0 0] 34 ?_; intro gb473 hg w4 hbox hb; have BK473 := am hbox; have GW473 := am (ge_ hg HB); have GE473 := am (ge_ hg HB); replace HB := bs HB hb; obtain ⟨NB472_473, NB473_472⟩ := nb_ hg BK472; replace BK472 := bb BK472 hb; clear hb hbox hg))
 replace BK472 := am (blk_drew BK472.out)
 replace BK473 := am (blk_drew BK473.out)
 replace HB := am (below_drew1 HB.out)
 refine start_ (n := 8) (S := fun w' => w'.cell? ⟨gb472, 0, none⟩ = some (.int .i64 a0_0) ∧ w'.cell? ⟨gb472, 1, none⟩ = some (.slice A0_1 l0_1.length c0_1)) (ds := []) #[false, false, false, false, false, false, false, false] (by kernel_rfl) rfl rfl ⟨(bc BK472 0), (bc BK472 1)⟩ (fun hHeld => ?_); refine with_tabW spec_l1Copy.tab1 spec_l1Copy.bits1 (fun HT_ HW_ => ?_)
 generalize w4.drew = w5 at BK472 BK473 HB hHeld ⊢
 refine pz_ 0 (some 3) HT_ ?_
 refine pz_ 3 (some 6) HT_ ?_
 refine tz_ 1 (some 4) HT_ HW_ hHeld ?_
 refine tz_ 4 (some 7) HT_ HW_ hHeld ?_
 refine one_ (i := 2) (N := some 5) #[true, true, true, true, true, false, false, false] rfl rfl (one_of HT_.out (by kernel_rfl)) (by decide) (fun K hK => ?_)
 refine Kd.R_lit_step k73 _ 73 ?hg (N := 5) ?hd (xs := ([] : List (S73))) (inner := []) (ok := fun _ => True) (okp := fun _ => True) ?hr ?hp (fun _ hk => hk) trivial (Below.refl _ _) (Nat.le_refl _) (by simp) ?_; (case hd => rfl); (case hg => rfl); (case hr => first | (go_simp; done) | (go_simp; rfl)); (case hp => exact (Reps.none _ _))
 intro v475 w6 ho7 hb hg_ hnew_
 clear hg_ hnew_
 (first | rw [← Ny474.out] at ho7 | (simp only [Int.reduceToNat] at ho7; rw [← Ny474.out] at ho7))
 have n0_ := am (Kd.R_lower ho7 (below_size (bn HB)))
 have n1_ := bb BK472 hb
 have n2_ := bb BK473 hb
 have n3_ := bs HB hb
 clear BK472 BK473 HB
 have HO476 := n0_
 have BK472 := n1_
 have BK473 := n2_
 have HB := n3_
 clear n0_ n1_ n2_ n3_ hb ho7
 refine hK.out _ _ ⟨(bc BK472 0), (bc BK472 1)⟩ (fun hHeld => ?_)
 clear hK K
 refine nz_ 5 ?_
 refine one_ (i := 5) (N := some 8) #[true, true, true, true, true, true, false, false] rfl rfl (one_of HT_.out (by kernel_rfl)) (by decide) (fun K hK => ?_)
 refine Kd.R_append_rows_step k73 (w0 := w) w.heap.size (by rfl) (.tmp 5) (.tmp 7) 32 73 (.agg #[(.int .i64 0), (.int .i64 0)]) 16 rfl Try.underlying32 info73 rfl (by decide) (by omega) v475 y474 l0_1 _ _ _ (fun _ => True) (fun _ => False) rfl rfl ?aO ?aR (fun _ _ h => h) (fun _ h => h.elim) ?aF ?aB ?aS ?aL ?_
 (case aR => repeat (first | exact (Kd.C_below HR0_1.out HB.out) | (with_reducible refine Kd.C_alloc ?_ _) | (with_reducible refine Kd.C_drewN ?_ _) | (with_reducible refine Kd.C_drew ?_)))
 (case aB => exact (bn HB))
 (case aF => exact (fun _ _ => trivial))
 (case aO => exact (onR HO476))
 (case aS => exact (below_size (bn HB)))
 (case aL => have := LMc2.out; omega)
 intro v478 w8 ho hb hg hat
 rw [← Ny477.out] at ho
 have n0_ := am (blk_grown (bkn BK472) hg (Kd.R_ne HO476.out BK472.out (by decide)))
 have n1_ := am (blk_grown (bkn BK473) hg (Kd.R_ne HO476.out BK473.out (by decide)))
 have n2_ := am hb
 have n3_ := am ho
 clear BK472 BK473 HB HO476
 have BK472 := n0_
 have BK473 := n1_
 have HB := n2_
 have HO479 := n3_
 clear n0_ n1_ n2_ n3_ ho hb hg hat
 obtain ⟨Ao9, co9, eo9⟩ := Kd.R_slice HO479.out
 (first | subst eo9 | (injection eo9 with f1_ f2_ f3_; have f4_ := f1_.symm; have f5_ := f3_.symm; clear f1_ f2_ f3_; subst f4_; subst f5_))
 refine hK.out _ _ ⟨(bc BK472 0), (bc BK472 1)⟩ (fun hHeld => ?_)
 clear hK K
 refine nz_ 8 ?_
 refine pz_ 6 (some 9) HT_ ?_
 refine one_ (i := 7) (N := none) #[true, true, true, true, true, true, true, true] rfl rfl (one_of HT_.out (by kernel_rfl)) (by decide) (fun K hK => ?_)
 have hs10 := bc BK473 0
 have hfs10 := blk_frozen BK473.out 0
 have hns10_0 := NB472_473.out
 have hms10_0 := NB473_472.out
 have hs11 := bc BK473 1
 have hfs11 := blk_frozen BK473.out 1
 have hns11_0 := NB472_473.out
 have hms11_0 := NB473_472.out
 refine skip_ (w1 := ?_) (by rfl) rfl ?_ ?_
 rotate_left
 ·go_simp
  rfl
 refine hK.out _ _ ⟨((cell_far (p := ⟨gb473, _, none⟩) NB472_473.out _).trans (((cell_far (p := ⟨gb473, _, none⟩) NB472_473.out _).trans (hHeld.1)))), ((cell_far (p := ⟨gb473, _, none⟩) NB472_473.out _).trans (((cell_far (p := ⟨gb473, _, none⟩) NB472_473.out _).trans (hHeld.2))))⟩ (fun hHeld => ?_)
 clear hK K
 refine done_ (done_of HT_.out (by kernel_rfl)) ?_
 try go_wp2
 refine bodyPost_ret (results_cell_row rfl _ _ gb473 34 #[.int .i64 a0_0, .slice Ao9 y477.length co9] (0, 0) _ rfl (by (with_reducible repeat (first | refine blk_drewN ?_ _ | refine blk_drew ?_ | refine blk_alloc ?_ _)); refine blk_put (cs := #[.int .i64 a0_0, .slice none 0 0]) ?_ 1 _ rfl; (with_reducible repeat (first | refine blk_drewN ?_ _ | refine blk_drew ?_ | refine blk_alloc ?_ _)); refine blk_put (cs := #[.int .i64 0, .slice none 0 0]) ?_ 0 _ rfl; (with_reducible repeat (first | refine blk_drewN ?_ _ | refine blk_drew ?_ | refine blk_alloc ?_ _)); exact BK473.out) Try.underlying34 rfl (by kernel_rfl)) rfl ?_
 exact ⟨_, by first | rfl | (simp [errW_none, errW_some] <;> rfl) | (simp [*, errW_none, errW_some] <;> rfl), by (with_reducible repeat (first | apply Kd.R_alloc | apply Kd.R_drewN | apply Kd.R_drew)); exact Kd.R_mono (Kd.R_far (p := ⟨gb473, 1, none⟩) (Kd.R_far (p := ⟨gb473, 0, none⟩) (Kd.R_types HO479.out BK473.out (by decide)) (fun _ hk => hk.2) (.int .i64 a0_0)) (fun _ hk => hk.2) (.slice Ao9 y477.length co9)) (fun _ hk => trivial), bn HB⟩

end Go.Proofs.Ytdlnnjgjfngccaa.F
