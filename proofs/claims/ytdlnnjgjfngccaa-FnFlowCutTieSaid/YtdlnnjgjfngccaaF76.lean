-- Written by oprint.py (wip/tools) over the kit's print program, for this seat.
import Derived.Test.YtdlnnjgjfngccaaF0
import Derived.Test.YtdlnnjgjfngccaaF24
import Derived.Test.YtdlnnjgjfngccaaF38
import Derived.Test.YtdlnnjgjfngccaaF75
namespace Go.Proofs.Ytdlnnjgjfngccaa.F
open Go.RowKit Go.Proofs.YtdlnnjgjfngccaaW.PrintWords Go.Proofs.YtdlnnjgjfngccaaW.PrintLast Go.Proofs.YtdlnnjgjfngccaaW.PrintMore
attribute [local go_sem] max2_int min2_int max_two min_two max_three min_three max_four min_four   -- for this text's walks alone
set_option linter.unusedVariables false
set_option linter.unusedSimpArgs false

/-! ### impl_NetCut: function 71 -/
def impl_NetCut.f (k : Nat) (a0_0 : Int) (l0_1 : List (S73)) (a1 : Int) (a2 : Int) : Option (Int × (List (S73)) × Bool) := (impl_NetHas.f k a0_0 l0_1 a1 a2).bind fun t1125 => (if t1125 = true then ((impl_tie.f a1 a2).bind fun bt1126 => ((impl_Net_less.f k a0_0 l0_1 (([(⟨bt1126.1, bt1126.2⟩ : S73)] : List (S73)))).bind fun bt1131 => (some (bt1131.1, bt1131.2, true)))) else (some (0, ([] : List (S73)), false)))
theorem impl_NetCut.mono : ∀ a0 a1 a2 a3 k, LeO (impl_NetCut.f k a0 a1 a2 a3) (impl_NetCut.f (k + 1) a0 a1 a2 a3) := by
 intro a0 a1 a2 a3 k
 unfold impl_NetCut.f
 have m0_ := @impl_NetHas.mono
 have m1_ := @impl_Net_less.mono
 exact mo_
def impl_NetCut.T3 : Bool × List (List Nat × List Nat) := (true, [([], []), ([], []), ([], []), ([1, 2], [1, 2]), ([3], [3]), ([0, 4, 3], [0, 4]), ([5, 5, 0, 1, 2, 3, 4, 5], [5]), ([6, 0, 1, 2, 3, 4, 5, 6], [])])
def impl_NetCut.B3 : List Nat := [0, 0, 0, 6, 14, 31, 63, 127]
theorem impl_NetCut.tab3 : rtab .any (opsOf Try.f71 3) = impl_NetCut.T3 := by kernel_rfl
theorem impl_NetCut.bits3 : waitsOk impl_NetCut.T3.2 impl_NetCut.B3 = true := by kernel_rfl
set_option maxHeartbeats 8000000 in
set_option maxRecDepth 100000 in
theorem impl_NetCut.calls (k : Nat) (a0_0 : Int) (A0_1 : Option Addr) (c0_1 : Nat) (l0_1 : List (S73)) (a1 : Int) (a2 : Int) (r1 : Int) (r2 : List (S73)) (r3 : Bool) (w : World) (hr0_1 : Kd.C k73 w A0_1 l0_1.length l0_1) (hc0_1 : l0_1.length ≤ c0_1) (h : impl_NetCut.f k a0_0 l0_1 a1 a2 = some (r1, r2, r3)) :
  Calls Try.prog 71 #[.agg #[.int .i64 a0_0, .slice A0_1 l0_1.length c0_1], .int .i64 a1, .int .i64 a2] w fun e w' => ∃ v1_ : Value, e = .returned (.tuple #[.agg #[.int .i64 r1, v1_], .bool r3]) ∧ Kd.R k73 73 w' w.heap.size (fun _ => True) v1_ r2 ∧ Below w.heap.size w w' := by
 have hu34 := Try.underlying34
 have HR0_1 := am hr0_1
 have HC0_1 := am hc0_1
 clear hr0_1 hc0_1
 have HB := am (Below.refl w.heap.size w)
 have H : ((impl_NetHas.f k a0_0 l0_1 a1 a2).bind fun t1125 => (if t1125 = true then ((impl_tie.f a1 a2).bind fun bt1126 => ((impl_Net_less.f k a0_0 l0_1 (([(⟨bt1126.1, bt1126.2⟩ : S73)] : List (S73)))).bind fun bt1131 => (some (bt1131.1, bt1131.2, true)))) else (some (0, ([] : List (S73)), false)))) = some (r1, r2, r3) := h
 clear h
 replace H := Option.bind_eq_some_iff.mp H
 obtain ⟨t1125, A40, H⟩ := H
 (try dsimp only at H)
 have A4 := am A40
 clear A40
 by_cases c5 : t1125 = true
 ·subst c5
  rw [if_pos rfl] at H
  replace H := Option.bind_eq_some_iff.mp H
  obtain ⟨⟨t1126, t1127⟩, A60, H⟩ := H
  (try dsimp only at H)
  have A6 := am A60
  clear A60
  obtain ⟨y1128, hy1128⟩ : ∃ y_ : List (S73), y_ = (([(⟨t1126, t1127⟩ : S73)] : List (S73))) := ⟨_, rfl⟩
  replace H : ((impl_Net_less.f k a0_0 l0_1 y1128).bind fun bt1131 => (some (bt1131.1, bt1131.2, true))) = some (r1, r2, r3) := nh_ hy1128 H
  have Ny1128 := am hy1128
  clear hy1128
  replace H := Option.bind_eq_some_iff.mp H
  obtain ⟨⟨t1131, t1132⟩, A70, H⟩ := H
  (try dsimp only at H)
  have A7 := am A70
  clear A70
  simp only [Option.some.injEq, Prod.mk.injEq] at H
  obtain ⟨rfl, rfl, rfl⟩ := H
  go_enter Try.func71, Try.ntmps71
  try go_wp2_with (first | ((with_reducible refine gate_dst (N := 3) rfl ?_); refine be_ 3 #[.int .i64 a0_0, .slice A0_1 l0_1.length c0_1] 34 ?_; intro gb1123 hg w8 hbox hb; have BK1123 := am hbox; have GW1123 := am (ge_ hg HB); have GE1123 := am (ge_ hg HB); replace HB := bs HB hb; clear hb hbox hg) | ((with_reducible refine gate_dst (N := 6) rfl ?_); refine be_ 6 #[.int .i64 0, .slice none 0 0] 34 ?_; intro gb1124 hg w9 hbox hb; have BK1124 := am hbox; have GW1124 := am (ge_ hg HB); have GE1124 := am (ge_ hg HB); replace HB := bs HB hb; obtain ⟨NB1123_1124, NB1124_1123⟩ := nb_ hg BK1123; replace BK1123 := bb BK1123 hb; clear hb hbox hg; obtain ⟨hnb10, hnc10⟩ := n2 NB1123_1124 NB1124_1123; obtain ⟨hcz11_0, hcz11_1, hfz11_0, hfz11_1⟩ := c2 BK1123) | ((with_reducible refine gate_callee (f := 122) rfl ?_); refine gl_ (some 11) Try.func122 #[.agg #[.int .i64 a0_0, .slice A0_1 l0_1.length c0_1], .int .i64 a1, .int .i64 a2] ?_; (with_reducible refine (impl_NetHas.calls k a0_0 _ _ l0_1 a1 a2 true _ ?side1 ?side2 A4.out).mono ?_); (case side1 => exact cb HR0_1 HB); (case side2 => exact HC0_1.out); rintro e w12 ⟨rfl, hb⟩; refine ⟨_, rfl, ?_⟩; replace BK1123 := bb BK1123 hb; replace BK1124 := bb BK1124 hb; replace HB := bs HB hb; (try clear hb); (try clear hi)))
  replace BK1123 := am (blk_drew BK1123.out)
  replace BK1124 := am (blk_drew BK1124.out)
  replace HB := am (below_drew1 HB.out)
  refine start_ (n := 8) (S := fun w' => w'.cell? ⟨gb1123, 0, none⟩ = some (.int .i64 a0_0) ∧ w'.cell? ⟨gb1123, 1, none⟩ = some (.slice A0_1 l0_1.length c0_1)) (ds := []) #[false, false, false, false, false, false, false, false] (by kernel_rfl) rfl rfl ⟨(bc BK1123 0), (bc BK1123 1)⟩ (fun hHeld => ?_); refine with_tabW impl_NetCut.tab3 impl_NetCut.bits3 (fun HT_ HW_ => ?_)
  generalize w12.drew = w13 at BK1123 BK1124 HB hHeld ⊢
  refine pz_ 1 (some 15) HT_ ?_
  refine pz_ 2 (some 16) HT_ ?_
  refine tz_ 0 (some 14) HT_ HW_ hHeld ?_
  refine one_ (i := 3) (N := some 17) #[true, true, true, true, false, false, false, false] rfl rfl (one_of HT_.out (by kernel_rfl)) (by decide) (fun K hK => ?_)
  refine gg_ Try.func112 #[.int .i64 a1, .int .i64 a2] ?_
  with_reducible refine (impl_tie.calls a1 a2 t1126 t1127 _ A6.out).mono ?_
  rintro e w14 ⟨rfl, hb⟩
  refine ⟨_, rfl, ?_⟩
  replace BK1123 := bb BK1123 hb
  replace BK1124 := bb BK1124 hb
  replace HB := bs HB hb
  (try clear hb)
  (try clear hb2)
  (try clear hk)
  (try clear hi)
  refine hK.out _ _ ⟨(bc BK1123 0), (bc BK1123 1)⟩ (fun hHeld => ?_)
  clear hK K
  refine nz_ 17 ?_
  refine one_ (i := 4) (N := some 18) #[true, true, true, true, true, false, false, false] rfl rfl (one_of HT_.out (by kernel_rfl)) (by decide) (fun K hK => ?_)
  refine Kd.R_lit_step k73 _ 73 ?hg (N := 18) ?hd (xs := ([(⟨t1126, t1127⟩ : S73)] : List (S73))) (inner := [.int .i64 t1126, .int .i64 t1127]) (ok := fun _ => True) (okp := fun _ => True) ?hr ?hp (fun _ hk => hk) trivial (Below.refl _ _) (Nat.le_refl _) (by simp) ?_; (case hd => rfl); (case hg => rfl); (case hr => first | (go_simp; done) | (go_simp; rfl)); (case hp => exact (Reps.c2 (show Kd.M k73 _ _ _ (⟨t1126, t1127⟩ : S73) [.int .i64 t1126, .int .i64 t1127] from (k73_mkM _ _ _ (⟨t1126, t1127⟩ : S73) )) (Reps.none _ _)))
  intro v1129 w15 ho16 hb hg_ hnew_
  clear hg_ hnew_
  (first | rw [← Ny1128.out] at ho16 | (simp only [Int.reduceToNat] at ho16; rw [← Ny1128.out] at ho16))
  have n0_ := am (Kd.R_lower ho16 (below_size (bn HB)))
  have n1_ := bb BK1123 hb
  have n2_ := bb BK1124 hb
  have n3_ := bs HB hb
  clear BK1123 BK1124 HB
  have HO1130 := n0_
  have BK1123 := n1_
  have BK1124 := n2_
  have HB := n3_
  clear n0_ n1_ n2_ n3_ hb ho16
  obtain ⟨Ao17, co17, eo17⟩ := Kd.R_slice HO1130.out
  (first | subst eo17 | (injection eo17 with f1_ f2_ f3_; have f4_ := f1_.symm; have f5_ := f3_.symm; clear f1_ f2_ f3_; subst f4_; subst f5_))
  refine hK.out _ _ ⟨(bc BK1123 0), (bc BK1123 1)⟩ (fun hHeld => ?_)
  clear hK K
  refine nz_ 18 ?_
  refine one_ (i := 5) (N := some 19) #[true, true, true, true, true, true, false, false] rfl rfl (one_of HT_.out (by kernel_rfl)) (by decide) (fun K hK => ?_)
  refine gg_ Try.func106 #[.agg #[.int .i64 a0_0, .slice A0_1 l0_1.length c0_1], .slice Ao17 y1128.length co17] ?_
  with_reducible refine (impl_Net_less.calls k a0_0 _ _ l0_1 _ _ y1128 t1131 t1132 _ ?side1 ?side2 ?side3 ?side4 A7.out).mono ?_
  (case side1 => exact cb HR0_1 HB)
  (case side2 => exact HC0_1.out)
  (case side3 => exact (Kd.R_reads' (onR HO1130)).2.2)
  (case side4 => exact (Kd.R_reads' HO1130.out).2.1)
  rintro e w18 ⟨v1133, rfl, ho0, hb⟩
  refine ⟨_, rfl, ?_⟩
  have HO1134 := am (Kd.R_lower (Kd.R_new' ho0 (Kd.R_lt (onR HO1130))) (below_size (bn HB)))
  replace HO1130 := am (Kd.R_elder' (onR HO1130) (Kd.R_base ho0) hb)
  replace BK1123 := bb BK1123 hb
  replace BK1124 := bb BK1124 hb
  replace HB := bs HB hb
  (try clear hb)
  (try clear hb2)
  (try clear hk)
  (try clear hi)
  (try clear ho0)
  obtain ⟨Ao20, co20, eo20⟩ := Kd.R_slice HO1134.out
  (first | subst eo20 | (injection eo20 with f1_ f2_ f3_; have f4_ := f1_.symm; have f5_ := f3_.symm; clear f1_ f2_ f3_; subst f4_; subst f5_))
  refine hK.out _ _ ⟨(bc BK1123 0), (bc BK1123 1)⟩ (fun hHeld => ?_)
  clear hK K
  refine nz_ 19 ?_
  refine one_ (i := 6) (N := none) #[true, true, true, true, true, true, true, false] rfl rfl (one_of HT_.out (by kernel_rfl)) (by decide) (fun K hK => ?_)
  have hs19 := bc BK1124 0
  have hfs19 := blk_frozen BK1124.out 0
  have hns19_0 := NB1123_1124.out
  have hms19_0 := NB1124_1123.out
  have hs21 := bc BK1124 1
  have hfs21 := blk_frozen BK1124.out 1
  have hns21_0 := NB1123_1124.out
  have hms21_0 := NB1124_1123.out
  refine skip_ (w1 := ?_) (by rfl) rfl ?_ ?_
  rotate_left
  ·go_simp
   rfl
  refine hK.out _ _ ⟨((cell_far (p := ⟨gb1124, _, none⟩) NB1123_1124.out _).trans (((cell_far (p := ⟨gb1124, _, none⟩) NB1123_1124.out _).trans (hHeld.1)))), ((cell_far (p := ⟨gb1124, _, none⟩) NB1123_1124.out _).trans (((cell_far (p := ⟨gb1124, _, none⟩) NB1123_1124.out _).trans (hHeld.2))))⟩ (fun hHeld => ?_)
  clear hK K
  refine pz_ 7 (some 7) HT_ ?_
  refine done_ (done_of HT_.out (by kernel_rfl)) ?_
  try go_wp2
  refine bodyPost_ret (results_ct rfl _ _ gb1124 34 #[.int .i64 t1131, .slice Ao20 t1132.length co20] (0, 0) _ rfl (by (with_reducible repeat (first | refine blk_drewN ?_ _ | refine blk_drew ?_ | refine blk_alloc ?_ _)); refine blk_put (cs := #[.int .i64 t1131, .slice none 0 0]) ?_ 1 _ rfl; (with_reducible repeat (first | refine blk_drewN ?_ _ | refine blk_drew ?_ | refine blk_alloc ?_ _)); refine blk_put (cs := #[.int .i64 0, .slice none 0 0]) ?_ 0 _ rfl; (with_reducible repeat (first | refine blk_drewN ?_ _ | refine blk_drew ?_ | refine blk_alloc ?_ _)); exact BK1124.out) Try.underlying34 rfl (by kernel_rfl)) rfl ?_
  exact ⟨_, by first | rfl | (simp [errW_none, errW_some] <;> rfl) | (simp [*, errW_none, errW_some] <;> rfl), by (with_reducible repeat (first | apply Kd.R_alloc | apply Kd.R_drewN | apply Kd.R_drew)); exact Kd.R_mono (Kd.R_far (p := ⟨gb1124, 1, none⟩) (Kd.R_far (p := ⟨gb1124, 0, none⟩) (Kd.R_types HO1134.out BK1124.out (by decide)) (fun _ hk => hk.2) (.int .i64 t1131)) (fun _ hk => hk.2) (.slice Ao20 t1132.length co20)) (fun _ hk => trivial), bn HB⟩
 ·replace c5 := Bool.eq_false_iff.mpr c5
  subst c5
  rw [if_neg (show ¬ (false = true) by decide)] at H
  simp only [Option.some.injEq, Prod.mk.injEq] at H
  obtain ⟨rfl, rfl, rfl⟩ := H
  go_enter Try.func71, Try.ntmps71
  go_wp2_with (first | ((with_reducible refine gate_dst (N := 3) rfl ?_); refine be_ 3 #[.int .i64 a0_0, .slice A0_1 l0_1.length c0_1] 34 ?_; intro gb1123 hg w22 hbox hb; have BK1123 := am hbox; have GW1123 := am (ge_ hg HB); have GE1123 := am (ge_ hg HB); replace HB := bs HB hb; clear hb hbox hg) | ((with_reducible refine gate_dst (N := 6) rfl ?_); refine be_ 6 #[.int .i64 0, .slice none 0 0] 34 ?_; intro gb1124 hg w23 hbox hb; have BK1124 := am hbox; have GW1124 := am (ge_ hg HB); have GE1124 := am (ge_ hg HB); replace HB := bs HB hb; obtain ⟨NB1123_1124, NB1124_1123⟩ := nb_ hg BK1123; replace BK1123 := bb BK1123 hb; clear hb hbox hg; obtain ⟨hnb24, hnc24⟩ := n2 NB1123_1124 NB1124_1123; obtain ⟨hcz25_0, hcz25_1, hfz25_0, hfz25_1⟩ := c2 BK1123) | ((with_reducible refine gate_callee (f := 122) rfl ?_); refine gl_ (some 11) Try.func122 #[.agg #[.int .i64 a0_0, .slice A0_1 l0_1.length c0_1], .int .i64 a1, .int .i64 a2] ?_; (with_reducible refine (impl_NetHas.calls k a0_0 _ _ l0_1 a1 a2 false _ ?side1 ?side2 A4.out).mono ?_); (case side1 => exact cb HR0_1 HB); (case side2 => exact HC0_1.out); rintro e w26 ⟨rfl, hb⟩; refine ⟨_, rfl, ?_⟩; replace BK1123 := bb BK1123 hb; replace BK1124 := bb BK1124 hb; replace HB := bs HB hb; (try clear hb); obtain ⟨hcz27_0, hcz27_1, hfz27_0, hfz27_1⟩ := c2 BK1124))
  refine bodyPost_ret (results_ct rfl _ _ gb1124 34 #[.int .i64 0, .slice none 0 0] (0, 0) _ rfl (by (with_reducible repeat (first | refine blk_drewN ?_ _ | refine blk_drew ?_ | refine blk_alloc ?_ _)); refine blk_put (cs := #[.int .i64 0, .slice none 0 0]) ?_ 1 _ rfl; (with_reducible repeat (first | refine blk_drewN ?_ _ | refine blk_drew ?_ | refine blk_alloc ?_ _)); refine blk_put (cs := #[.int .i64 0, .slice none 0 0]) ?_ 0 _ rfl; (with_reducible repeat (first | refine blk_drewN ?_ _ | refine blk_drew ?_ | refine blk_alloc ?_ _)); exact BK1124.out) Try.underlying34 rfl (by kernel_rfl)) rfl ?_
  exact ⟨_, by first | rfl | (simp [errW_none, errW_some] <;> rfl) | (simp [*, errW_none, errW_some] <;> rfl), by first | exact Kd.R_nil _ _ _ _ _ | exact Kd.N_nil _ _ _ _ _ | exact Kd.V_nil _ _ _ _ _ | exact Kd.Q_nil _ _ _ _ _ | exact Kd.S_nil _ _ _ _ _, bn HB⟩

end Go.Proofs.Ytdlnnjgjfngccaa.F
