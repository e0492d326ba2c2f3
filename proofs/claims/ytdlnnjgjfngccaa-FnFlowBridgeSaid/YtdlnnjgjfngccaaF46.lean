-- Written by oprint.py (wip/tools) over the kit's print program, for this seat.
import Derived.Test.YtdlnnjgjfngccaaF0
import Derived.Test.YtdlnnjgjfngccaaF41
import Derived.Test.YtdlnnjgjfngccaaF45
namespace Go.Proofs.Ytdlnnjgjfngccaa.F
open Go.RowKit Go.Proofs.YtdlnnjgjfngccaaW.PrintWords Go.Proofs.YtdlnnjgjfngccaaW.PrintLast Go.Proofs.YtdlnnjgjfngccaaW.PrintMore
attribute [local go_sem] max2_int min2_int max_two min_two max_three min_three max_four min_four   -- for this text's walks alone
set_option linter.unusedVariables false
set_option linter.unusedSimpArgs false

/-! ### spec_l71Knot: function 136 -/
def spec_l71Knot.j0 : Nat → Bool → List Int → Int → Int → List (S73) → Option (Int × Int)
 | 0, _, _, _, _, _ => none
 | k + 1, x12, x1000, x1001, x682000, x682001 => if x12 = true then ((some (([(-1), x682000, 3] : List Int) : List Int)).bind fun y684 => ((spec_l6Rd_pick.f k x1000 x1001 3).bind fun bt687 => (if 0 ≤ bt687.1 then (if bt687.1 < (y684.length : Int) then (some (rd y684 bt687.1, bt687.2)) else (none)) else (none)))) else ((spec_l6Rd_pick.f k x1000 x1001 x682000).bind fun bt690 => (some (bt690.1, bt690.2)))
def spec_l71Knot.f (k : Nat) (s0_0 : List Int) (s0_1 : Int) (a1_0 : Int) (l1_1 : List (S73)) : Option (Int × Int) := if a1_0 < 1 then (spec_l71Knot.j0 k true s0_0 s0_1 a1_0 l1_1) else ((spec_l6Rd_pick.f k s0_0 s0_1 24).bind fun bt682 => (spec_l71Knot.j0 k (bt682.1 == 0) s0_0 bt682.2 a1_0 l1_1))
theorem spec_l71Knot.mono_l : ∀ k, (∀ y0 y1 y2 y3 y4, LeO (spec_l71Knot.j0 k y0 y1 y2 y3 y4) (spec_l71Knot.j0 (k + 1) y0 y1 y2 y3 y4))
 | 0 => fun _ _ _ _ _ r h => by simp [spec_l71Knot.j0] at h
 | k + 1 => by
  have ih0 := spec_l71Knot.mono_l k
  ·intro y0 y1 y2 y3 y4
   unfold spec_l71Knot.j0
   have m0_ := @spec_l6Rd_pick.mono
   exact mo_
theorem spec_l71Knot.mono : ∀ a0 a1 a2 a3 k, LeO (spec_l71Knot.f k a0 a1 a2 a3) (spec_l71Knot.f (k + 1) a0 a1 a2 a3) := by
 intro a0 a1 a2 a3 k
 have ih0 := spec_l71Knot.mono_l k
 unfold spec_l71Knot.f
 have m0_ := @spec_l6Rd_pick.mono
 exact mo_
def spec_l71Knot.T2 : Bool × List (List Nat × List Nat) := (true, [([], []), ([0], [0]), ([1], [1]), ([], []), ([3], [3]), ([2, 4], [2, 4]), ([5], [5]), ([6, 4, 0, 1, 2, 3, 4, 5, 6], [6])])
def spec_l71Knot.B2 : List Nat := [0, 1, 3, 0, 8, 31, 63, 127]
theorem spec_l71Knot.tab2 : rtab .any (opsOf Try.f136 2) = spec_l71Knot.T2 := by kernel_rfl
theorem spec_l71Knot.bits2 : waitsOk spec_l71Knot.T2.2 spec_l71Knot.B2 = true := by kernel_rfl
set_option maxHeartbeats 8000000 in
set_option maxRecDepth 100000 in
theorem spec_l71Knot.calls (k : Nat) (g : Nat) (s0_0 : List Int) (s0_1 : Int) (a1_0 : Int) (A1_1 : Option Addr) (c1_1 : Nat) (l1_1 : List (S73)) (r1 : Int) (r2 : Int) (w0 w : World) (hI : IsS120 w0 w g s0_0 s0_1) (hB : Below w0.heap.size w0 w) (hr1_1 : ∀ W_, KeepBut w W_ g none → Kd.C k73 W_ A1_1 l1_1.length l1_1) (hc1_1 : l1_1.length ≤ c1_1) (h : spec_l71Knot.f k s0_0 s0_1 a1_0 l1_1 = some (r1, r2)) :
  Calls Try.prog 136 #[.pointer (some ⟨g, 0, none⟩), .agg #[.int .i64 a1_0, .slice A1_1 l1_1.length c1_1]] w fun e w' => e = .returned (.int .i64 r1) ∧ IsS120 w0 w' g s0_0 r2 ∧ Below w0.heap.size w0 w' ∧ KeepBut w w' g none := by
 have hu34 := Try.underlying34
 have HR1_1 := am hr1_1
 have HC1_1 := am hc1_1
 clear hr1_1 hc1_1
 have GEs_ := am (IsS120.ge hI)
 have HI0 := am hI
 have HK := am (KeepBut.refl w g none)
 have HL := am hB.size
 clear hI
 have HW0 := am hB.size
 have HB := am hB
 clear hB
 have H : (if a1_0 < 1 then (spec_l71Knot.j0 k true s0_0 s0_1 a1_0 l1_1) else ((spec_l6Rd_pick.f k s0_0 s0_1 24).bind fun bt682 => (spec_l71Knot.j0 k (bt682.1 == 0) s0_0 bt682.2 a1_0 l1_1))) = some (r1, r2) := h
 clear h
 have HC3 := am H
 clear H
 go_enter Try.func136, Try.ntmps136
 go_upto_region 1 with (first | ((with_reducible refine gate_dst (N := 3) rfl ?_); refine be_ 3 #[.int .i64 a1_0, .slice A1_1 l1_1.length c1_1] 34 ?_; intro gb681 hg w4 hbox hb; replace HB := bs HB hb; have BK681 := am hbox; have GW681 := am (gk_ hg HK); have GE681 := am (Nat.le_trans HW0.out (gk_ hg HK) : w0.heap.size ≤ gb681); replace HK := am (KeepBut.trans (kn HK) (KeepBut.of_below hb g none) (.inl rfl)); have NB0_681 := am ((by rw [hg]; exact Nat.ne_of_lt (IsS120.lt (show IsS120 w0 _ g s0_0 s0_1 from IsS120.now)) : g ≠ gb681)); have NB681_0 := am ((by rw [hg]; exact Nat.ne_of_gt (IsS120.lt (show IsS120 w0 _ g s0_0 s0_1 from IsS120.now)) : gb681 ≠ g)); replace HI0 := am (IsS120.below (IsS120.now) hb); clear hb hbox hg))
 (try simp only [Act.put, List.setIfInBounds_toArray, List.set_cons_zero, List.set_cons_succ])
 go_cut [12] (fun v12 wc => ∃ (kq : Nat) (x12_2 : Bool) (x1001_2 : Int), v12 = .bool x12_2 ∧ Aside0 (spec_l71Knot.j0 kq x12_2 s0_0 x1001_2 a1_0 l1_1 = some (r1, r2)) ∧ Aside0 (kq ≤ k) ∧ Aside0 (wc.heap[gb681]? = some (.cells #[.int .i64 a1_0, (.slice A1_1 l1_1.length c1_1)] 34 (0, 0))) ∧ Aside0 (IsS120 w0 wc g s0_0 x1001_2) ∧ Aside0 (KeepBut w wc g none) ∧ Aside0 (Below w0.heap.size w0 wc))
 case first =>
  have H := HC3.out
  clear HC3
  by_cases c5 : a1_0 < 1
  ·rw [if_pos c5] at H
   have c5b0 := decide_eq_true c5
   clear c5
   (first | rw [c5b0] | (simp only [i64_w, i32_w]; rw [c5b0]) | skip)
   have H' := am H
   clear H
   obtain ⟨hnb6, hnc6⟩ := n2 NB681_0 NB0_681
   obtain ⟨hcz7_0, hcz7_1, hfz7_0, hfz7_1⟩ := c2 BK681
   go_wp2
   go_meet
   case rel => exact ⟨_, (true), (s0_1), (by first | rfl | (simp; done) | (simp [*]; done)), H', ⟨by first | omega | exact Nat.le_refl _⟩, ⟨bkn BK681⟩, ⟨IsS120.now⟩, ⟨kn HK⟩, ⟨bn HB⟩⟩
  ·rw [if_neg c5] at H
   have c5b0 := decide_eq_false c5
   clear c5
   (first | rw [c5b0] | (simp only [i64_w, i32_w]; rw [c5b0]) | skip)
   replace H := Option.bind_eq_some_iff.mp H
   obtain ⟨⟨t682, t683⟩, A80, H⟩ := H
   (try dsimp only at H)
   have A8 := am A80
   clear A80
   have H' := am H
   clear H
   obtain ⟨hnb9, hnc9⟩ := n2 NB681_0 NB0_681
   obtain ⟨hcz10_0, hcz10_1, hfz10_0, hfz10_1⟩ := c2 BK681
   go_wp2_with (first | (go_at_call 126; (with_reducible refine (spec_l6Rd_pick.calls k g s0_0 s0_1 24 t682 t683 w0 _ ?side1 ?side2 A8.out).mono ?_); (case side1 => exact IsS120.now); (case side2 => exact bn HB); rintro e w11 ⟨rfl, hi, hb, hk⟩; replace BK681 := am (KeepBut.blk hk (bkn BK681) NB681_0.out (by simp)); replace HK := am (KeepBut.trans (kn HK) hk (.inl rfl)); replace HB := am hb; replace HI0 := am hi; (try clear hb); (try clear hk); (try clear hi)))
   go_meet
   case rel => exact ⟨_, ((t682 == 0)), (t683), (by first | rfl | (simp; done) | (simp [*]; done)), H', ⟨by first | omega | exact Nat.le_refl _⟩, ⟨bkn BK681⟩, ⟨IsS120.now⟩, ⟨kn HK⟩, ⟨bn HB⟩⟩
 case rest =>
  clear HC3
  try clear c1
  try clear p2
  try clear c5
  try clear c5b0
  try clear c6
  try clear c9
  try clear hcz10_0 hcz10_1 hfz10_0 hfz10_1
  try clear hcz7_0 hcz7_1 hfz7_0 hfz7_1
  obtain ⟨kq, x12_2, x1001_2, rfl, HA, HJ2, BK681, HI0, HK, HB⟩ := hcut
  cases kq with
  | zero => exact absurd HA.out (by simp [spec_l71Knot.j0])
  | succ kj2 =>
   have H := HA.out
   clear HA
   simp only [spec_l71Knot.j0] at H
   by_cases c12 : x12_2 = true
   ·subst c12
    rw [if_pos rfl] at H
    obtain ⟨y684, hy684⟩ : ∃ y_ : List Int, y_ = (([(-1), a1_0, 3] : List Int)) := ⟨_, rfl⟩
    replace H : ((spec_l6Rd_pick.f kj2 s0_0 x1001_2 3).bind fun bt687 => (if 0 ≤ bt687.1 then (if bt687.1 < (y684.length : Int) then (some (rd y684 bt687.1, bt687.2)) else (none)) else (none))) = some (r1, r2) := nh_ hy684 H
    have Ny684 := am hy684
    clear hy684
    replace H := Option.bind_eq_some_iff.mp H
    obtain ⟨⟨t687, t688⟩, A130, H⟩ := H
    (try dsimp only at H)
    have A13 := am A130
    clear A130
    obtain ⟨c14, H⟩ := ig_ H
    have c14b0 := decide_eq_true c14
    clear c14
    obtain ⟨c15, H⟩ := ig_ H
    have c15b0 := decide_eq_true c15
    clear c15
    simp only [Option.some.injEq, Prod.mk.injEq] at H
    obtain ⟨rfl, rfl⟩ := H
    try go_wp2
    have pi689 : (0 ≤ (t687 : Int)) = True := eq_true (oa)
    have qi689 : (t687 < (y684.length : Int)) = True := eq_true (oa)
    replace BK681 := am (blk_drew BK681.out)
    replace HI0 := am (IsS120.drew HI0.out)
    replace HK := am (keep_drew HK.out)
    replace HB := am (below_drew1 HB.out)
    refine start_ (n := 8) (S := fun w' => w'.cell? ⟨gb681, 0, none⟩ = some (.int .i64 a1_0) ∧ w'.cell? ⟨gb681, 1, none⟩ = some (.slice A1_1 l1_1.length c1_1)) (ds := []) #[false, false, false, false, false, false, false, false] (by kernel_rfl) rfl rfl ⟨(bc BK681 0), (bc BK681 1)⟩ (fun hHeld => ?_); refine with_tabW spec_l71Knot.tab2 spec_l71Knot.bits2 (fun HT_ HW_ => ?_)
    generalize wc.drew = w16 at BK681 HI0 HK HB hHeld ⊢
    refine pz_ 0 (some 13) HT_ ?_
    refine pz_ 3 (some 16) HT_ ?_
    refine tz_ 1 (some 14) HT_ HW_ hHeld ?_
    refine join_ (σ := Value × Addr) 3 #[true, true, true, true, true, false, false, false] (fun s_ => [(15, s_.1), (17, .int .i64 t687)]) (fun s_ w' => (w'.cell? ⟨gb681, 0, none⟩ = some (.int .i64 a1_0) ∧ w'.cell? ⟨gb681, 1, none⟩ = some (.slice A1_1 l1_1.length c1_1)) ∧ (Kd.R (Kd.int .i64) 3 w' w.heap.size (fun _ => True) s_.1 y684) ∧ (∃ c_, (s_.1 : Value) = .slice (some s_.2) y684.length c_) ∧ (w'.heap[gb681]? = some (.cells #[.int .i64 a1_0, .slice A1_1 l1_1.length c1_1] 34 (0, 0))) ∧ (IsS120 w0 w' g s0_0 t688) ∧ (KeepBut w w' g none) ∧ (Below w0.heap.size w0 w')) ?_ ?_
    rotate_left
    ·intro hCont
     refine two_ (i := 2) (j := 4) (Ni := some 15) (Nj := some 17) #[true, true, true, true, false, false, false, false] #[true, true, false, true, true, false, false, false] rfl rfl rfl rfl (two_of HT_.out (by kernel_rfl)) (by decide) (by decide) (fun K hK => ?_) (fun K hK => ?_)
     ·skip
      refine Kd.R_lit_step (Kd.int .i64) _ 3 ?hg (N := 15) ?hd (xs := ([(-1), a1_0, 3] : List Int)) (inner := [.int .i64 (-1), .int .i64 a1_0, .int .i64 3]) (ok := fun _ => True) (okp := fun _ => True) ?hr ?hp (fun _ hk => hk) trivial (Below.refl _ _) (Nat.le_refl _) (by simp) ?_; (case hd => rfl); (case hg => rfl); (case hr => first | (go_simp; done) | (go_simp; rfl)); (case hp => exact (Reps.one (show Kd.M (Kd.int .i64) _ _ _ (-1) [.int .i64 (-1)] from rfl) (Reps.one (show Kd.M (Kd.int .i64) _ _ _ a1_0 [.int .i64 a1_0] from rfl) (Reps.one (show Kd.M (Kd.int .i64) _ _ _ 3 [.int .i64 3] from rfl) (Reps.none _ _)))))
      intro v685 w17 ho18 hb hg_ hnew_
      clear hg_ hnew_
      (first | rw [← Ny684.out] at ho18 | (simp only [Int.reduceToNat] at ho18; rw [← Ny684.out] at ho18))
      have n0_ := am (Kd.R_lower ho18 (keep_size (w := w) (g := g) (row := none) (kn HK)))
      have n1_ := bb BK681 hb
      have n2_ := am (IsS120.below (IsS120.now) hb)
      have n3_ := am (KeepBut.trans (kn HK) (KeepBut.of_below hb g none) (.inl rfl))
      have n4_ := bs HB hb
      clear BK681 HI0 HK HB
      have HO686 := n0_
      have BK681 := n1_
      have HI0 := n2_
      have HK := n3_
      have HB := n4_
      clear n0_ n1_ n2_ n3_ n4_ hb ho18
      obtain ⟨Ao19, co19, eo19⟩ := Kd.R_slice HO686.out
      subst eo19
      obtain ⟨ado19, fo19, _⟩ := Kd.at_int (Kd.R_reads' HO686.out).2.2 0 (by decide) (by rw [Ny684.out]; simp)
      cases fo19
      refine hK.out _ _ ⟨(bc BK681 0), (bc BK681 1)⟩ (fun hHeld => ?_)
      clear hK K
      refine nz_ 15 ?_
      refine one_ (i := 4) (N := some 17) #[true, true, true, true, true, false, false, false] rfl rfl (one_of HT_.out (by kernel_rfl)) (by decide) (fun K hK => ?_)
      refine gg_ Try.func126 #[.pointer (some ⟨g, 0, none⟩), .int .i64 3] ?_
      with_reducible refine (spec_l6Rd_pick.calls kj2 g s0_0 x1001_2 3 t687 t688 w0 _ ?side1 ?side2 A13.out).mono ?_
      (case side1 => exact IsS120.now)
      (case side2 => exact bn HB)
      rintro e w20 ⟨rfl, hi, hb, hk⟩
      refine ⟨_, rfl, ?_⟩
      replace BK681 := am (KeepBut.blk hk (bkn BK681) NB681_0.out (by simp))
      replace HO686 := am (Kd.R_mono (Kd.R_keep (IsS120.apart (show IsS120 w0 _ g s0_0 x1001_2 from IsS120.now) (onR HO686) (by decide)) hk (fun _ h => h.2)) (fun _ h => h.1))
      replace HK := am (KeepBut.trans (kn HK) hk (.inl rfl))
      replace HB := am hb
      replace HI0 := am hi
      (try clear hb)
      (try clear hb2)
      (try clear hk)
      (try clear hi)
      refine hK.out _ _ ⟨(bc BK681 0), (bc BK681 1)⟩ (fun hHeld => ?_)
      clear hK K
      refine nz_ 17 ?_
      exact norm_ (by simp only [putAll, Act.put, List.setIfInBounds_toArray, List.set_cons_zero, List.set_cons_succ]) (hCont (.slice (some ado19) y684.length co19, ado19) _ ⟨hHeld, (onR HO686), ⟨_, rfl⟩, (bkn BK681), (IsS120.now), (kn HK), (bn HB)⟩)
     ·skip
      refine gg_ Try.func126 #[.pointer (some ⟨g, 0, none⟩), .int .i64 3] ?_
      with_reducible refine (spec_l6Rd_pick.calls kj2 g s0_0 x1001_2 3 t687 t688 w0 _ ?side1 ?side2 A13.out).mono ?_
      (case side1 => exact IsS120.now)
      (case side2 => exact bn HB)
      rintro e w17 ⟨rfl, hi, hb, hk⟩
      refine ⟨_, rfl, ?_⟩
      replace BK681 := am (KeepBut.blk hk (bkn BK681) NB681_0.out (by simp))
      replace HK := am (KeepBut.trans (kn HK) hk (.inl rfl))
      replace HB := am hb
      replace HI0 := am hi
      (try clear hb)
      (try clear hb2)
      (try clear hk)
      (try clear hi)
      refine hK.out _ _ ⟨(bc BK681 0), (bc BK681 1)⟩ (fun hHeld => ?_)
      clear hK K
      refine nz_ 17 ?_
      refine one_ (i := 2) (N := some 15) #[true, true, true, true, true, false, false, false] rfl rfl (one_of HT_.out (by kernel_rfl)) (by decide) (fun K hK => ?_)
      refine Kd.R_lit_step (Kd.int .i64) _ 3 ?hg (N := 15) ?hd (xs := ([(-1), a1_0, 3] : List Int)) (inner := [.int .i64 (-1), .int .i64 a1_0, .int .i64 3]) (ok := fun _ => True) (okp := fun _ => True) ?hr ?hp (fun _ hk => hk) trivial (Below.refl _ _) (Nat.le_refl _) (by simp) ?_; (case hd => rfl); (case hg => rfl); (case hr => first | (go_simp; done) | (go_simp; rfl)); (case hp => exact (Reps.one (show Kd.M (Kd.int .i64) _ _ _ (-1) [.int .i64 (-1)] from rfl) (Reps.one (show Kd.M (Kd.int .i64) _ _ _ a1_0 [.int .i64 a1_0] from rfl) (Reps.one (show Kd.M (Kd.int .i64) _ _ _ 3 [.int .i64 3] from rfl) (Reps.none _ _)))))
      intro v685 w18 ho19 hb hg_ hnew_
      clear hg_ hnew_
      (first | rw [← Ny684.out] at ho19 | (simp only [Int.reduceToNat] at ho19; rw [← Ny684.out] at ho19))
      have n0_ := am (Kd.R_lower ho19 (keep_size (w := w) (g := g) (row := none) (kn HK)))
      have n1_ := bb BK681 hb
      have n2_ := am (IsS120.below (IsS120.now) hb)
      have n3_ := am (KeepBut.trans (kn HK) (KeepBut.of_below hb g none) (.inl rfl))
      have n4_ := bs HB hb
      clear BK681 HI0 HK HB
      have HO686 := n0_
      have BK681 := n1_
      have HI0 := n2_
      have HK := n3_
      have HB := n4_
      clear n0_ n1_ n2_ n3_ n4_ hb ho19
      obtain ⟨Ao20, co20, eo20⟩ := Kd.R_slice HO686.out
      subst eo20
      obtain ⟨ado20, fo20, _⟩ := Kd.at_int (Kd.R_reads' HO686.out).2.2 0 (by decide) (by rw [Ny684.out]; simp)
      cases fo20
      refine hK.out _ _ ⟨(bc BK681 0), (bc BK681 1)⟩ (fun hHeld => ?_)
      clear hK K
      refine nz_ 15 ?_
      exact norm_ (by simp only [putAll, Act.put, List.setIfInBounds_toArray, List.set_cons_zero, List.set_cons_succ]) (hCont (.slice (some ado20) y684.length co20, ado20) _ ⟨hHeld, (onR HO686), ⟨_, rfl⟩, (bkn BK681), (IsS120.now), (kn HK), (bn HB)⟩)
    rintro ⟨v685, adz_v685⟩ w21 ⟨hS_, h0_, h1_, h2_, h3_, h4_, h5_⟩
    have n0_ : Aside0 (Kd.R (Kd.int .i64) 3 w21 w.heap.size (fun _ => True) v685 y684) := ⟨h0_⟩
    have n1_ : Aside0 (∃ c_, (v685 : Value) = .slice (some adz_v685) y684.length c_) := ⟨h1_⟩
    have n2_ : Aside0 (w21.heap[gb681]? = some (.cells #[.int .i64 a1_0, .slice A1_1 l1_1.length c1_1] 34 (0, 0))) := ⟨h2_⟩
    have n3_ : Aside0 (IsS120 w0 w21 g s0_0 t688) := ⟨h3_⟩
    have n4_ : Aside0 (KeepBut w w21 g none) := ⟨h4_⟩
    have n5_ : Aside0 (Below w0.heap.size w0 w21) := ⟨h5_⟩
    clear BK681 HI0 HK HB h0_ h1_ h2_ h3_ h4_ h5_
    have HO686 := n0_
    have HA_HO686 := n1_
    have BK681 := n2_
    have HI0 := n3_
    have HK := n4_
    have HB := n5_
    clear n0_ n1_ n2_ n3_ n4_ n5_
    have hHeld : w21.cell? ⟨gb681, 0, none⟩ = some (.int .i64 a1_0) ∧ w21.cell? ⟨gb681, 1, none⟩ = some (.slice A1_1 l1_1.length c1_1) := hS_
    obtain ⟨co22, eo22⟩ := HA_HO686.out
    clear HA_HO686
    subst eo22
    refine norm_ (a' := ?_) ?_ ?_
    rotate_left
    ·simp only [putAll, Act.put, List.setIfInBounds_toArray, List.set_cons_zero, List.set_cons_succ]
     rfl
    refine pz_ 5 (some 18) HT_ ?_
    refine one_ (i := 6) (N := some 19) #[true, true, true, true, true, true, true, false] rfl rfl (one_of HT_.out (by kernel_rfl)) (by decide) (fun K hK => ?_)
    (have p689 : 0 ≤ (t687 : Int) := oa; have q689 : t687 < (y684.length : Int) := oa; obtain ⟨ad689, e689, hx689_0⟩ := Kd.at_int (Kd.R_reads' HO686.out).2.2 t687 p689 q689; obtain rfl : adz_v685 = ad689 := (by injection e689))
    refine value_ (w1 := ?_) (v := ?_) (by rfl) rfl ?_ ?_
    rotate_left 2
    ·go_simp
     constructor
     ·rfl
     ·rfl
    clear hx689_0
    refine hK.out _ _ ⟨(bc BK681 0), (bc BK681 1)⟩ (fun hHeld => ?_)
    clear hK K
    refine nz_ 19 ?_
    refine pz_ 7 (some 4) HT_ ?_
    refine done_ (done_of HT_.out (by kernel_rfl)) ?_
    try go_wp2
    go_ret
    exact ⟨by first | rfl | (simp [errW_none, errW_some] <;> rfl) | (simp [*, errW_none, errW_some] <;> rfl), IsS120.now, bn HB, kn HK⟩
   ·replace c12 := Bool.eq_false_iff.mpr c12
    subst c12
    rw [if_neg (show ¬ (false = true) by decide)] at H
    replace H := Option.bind_eq_some_iff.mp H
    obtain ⟨⟨t690, t691⟩, A230, H⟩ := H
    (try dsimp only at H)
    have A23 := am A230
    clear A230
    simp only [Option.some.injEq, Prod.mk.injEq] at H
    obtain ⟨rfl, rfl⟩ := H
    obtain ⟨hnb24, hnc24⟩ := n2 NB681_0 NB0_681
    obtain ⟨hcz25_0, hcz25_1, hfz25_0, hfz25_1⟩ := c2 BK681
    go_wp2_with (first | ((with_reducible refine gate_callee (f := 126) rfl ?_); refine gl_ (some 23) Try.func126 #[.pointer (some ⟨g, 0, none⟩), .int .i64 a1_0] ?_; (with_reducible refine (spec_l6Rd_pick.calls kj2 g s0_0 x1001_2 a1_0 t690 t691 w0 _ ?side1 ?side2 A23.out).mono ?_); (case side1 => exact IsS120.now); (case side2 => exact bn HB); rintro e w26 ⟨rfl, hi, hb, hk⟩; refine ⟨_, rfl, ?_⟩; replace BK681 := am (KeepBut.blk hk (bkn BK681) NB681_0.out (by simp)); replace HK := am (KeepBut.trans (kn HK) hk (.inl rfl)); replace HB := am hb; replace HI0 := am hi; (try clear hb); (try clear hk); (try clear hi)))
    go_ret
    exact ⟨by first | rfl | (simp [errW_none, errW_some] <;> rfl) | (simp [*, errW_none, errW_some] <;> rfl), IsS120.now, bn HB, kn HK⟩

/-! ### spec_l71Pair: function 108 -/
def spec_l71Pair.f (k : Nat) (s0_0 : List Int) (s0_1 : Int) : Option (Int × (List (S73)) × Int × Int × Int) := (spec_l71Any.f k s0_0 s0_1).bind fun bt693 => ((spec_l71Knot.f k s0_0 bt693.2.2 bt693.1 bt693.2.1).bind fun bt699 => ((spec_l71Knot.f k s0_0 bt699.2 bt693.1 bt693.2.1).bind fun bt701 => (if bt699.1 = bt701.1 then (if bt693.1 > 1 then ((spec_l6Rd_pick.f k s0_0 bt701.2 8).bind fun bt703 => (if bt703.1 > 0 then (if bt693.1 = 0 then (none) else (some (bt693.1, bt693.2.1, bt699.1, Int.tmod (wrap64 (bt699.1 + 1)) bt693.1, bt703.2))) else (some (bt693.1, bt693.2.1, bt699.1, bt701.1, bt703.2)))) else (some (bt693.1, bt693.2.1, bt699.1, bt701.1, bt701.2))) else (some (bt693.1, bt693.2.1, bt699.1, bt701.1, bt701.2)))))
theorem spec_l71Pair.mono : ∀ a0 a1 k, LeO (spec_l71Pair.f k a0 a1) (spec_l71Pair.f (k + 1) a0 a1) := by
 intro a0 a1 k
 unfold spec_l71Pair.f
 have m0_ := @spec_l6Rd_pick.mono
 have m1_ := @spec_l71Any.mono
 have m2_ := @spec_l71Knot.mono
 exact mo_
set_option maxHeartbeats 8000000 in
set_option maxRecDepth 100000 in
theorem spec_l71Pair.calls (k : Nat) (g : Nat) (s0_0 : List Int) (s0_1 : Int) (r1 : Int) (r2 : List (S73)) (r3 : Int) (r4 : Int) (r5 : Int) (w0 w : World) (hI : IsS120 w0 w g s0_0 s0_1) (hB : Below w0.heap.size w0 w) (h : spec_l71Pair.f k s0_0 s0_1 = some (r1, r2, r3, r4, r5)) :
  Calls Try.prog 108 #[.pointer (some ⟨g, 0, none⟩)] w fun e w' => ∃ v1_ : Value, e = .returned (.tuple #[.agg #[.int .i64 r1, v1_], .int .i64 r3, .int .i64 r4]) ∧ Kd.R k73 73 w' w.heap.size (fun _ => True) v1_ r2 ∧ IsS120 w0 w' g s0_0 r5 ∧ Below w0.heap.size w0 w' ∧ KeepBut w w' g none := by
 have hu34 := Try.underlying34
 have GEs_ := am (IsS120.ge hI)
 have HI0 := am hI
 have HK := am (KeepBut.refl w g none)
 have HL := am hB.size
 clear hI
 have HW0 := am hB.size
 have HB := am hB
 clear hB
 have H : ((spec_l71Any.f k s0_0 s0_1).bind fun bt693 => ((spec_l71Knot.f k s0_0 bt693.2.2 bt693.1 bt693.2.1).bind fun bt699 => ((spec_l71Knot.f k s0_0 bt699.2 bt693.1 bt693.2.1).bind fun bt701 => (if bt699.1 = bt701.1 then (if bt693.1 > 1 then ((spec_l6Rd_pick.f k s0_0 bt701.2 8).bind fun bt703 => (if bt703.1 > 0 then (if bt693.1 = 0 then (none) else (some (bt693.1, bt693.2.1, bt699.1, Int.tmod (wrap64 (bt699.1 + 1)) bt693.1, bt703.2))) else (some (bt693.1, bt693.2.1, bt699.1, bt701.1, bt703.2)))) else (some (bt693.1, bt693.2.1, bt699.1, bt701.1, bt701.2))) else (some (bt693.1, bt693.2.1, bt699.1, bt701.1, bt701.2)))))) = some (r1, r2, r3, r4, r5) := h
 clear h
 replace H := Option.bind_eq_some_iff.mp H
 obtain ⟨⟨t693, t694, t697⟩, A20, H⟩ := H
 (try dsimp only at H)
 have A2 := am A20
 clear A20
 replace H := Option.bind_eq_some_iff.mp H
 obtain ⟨⟨t699, t700⟩, A30, H⟩ := H
 (try dsimp only at H)
 have A3 := am A30
 clear A30
 replace H := Option.bind_eq_some_iff.mp H
 obtain ⟨⟨t701, t702⟩, A40, H⟩ := H
 (try dsimp only at H)
 have A4 := am A40
 clear A40
 by_cases c5 : t699 = t701
 ·rw [if_pos c5] at H
  have c5b0 : (t699 == t701) = true := beq_iff_eq.mpr c5
  have c5b1 : (t699 != t701) = false := bne_eq_false_iff_eq.mpr c5
  clear c5
  by_cases c6 : t693 > 1
  ·rw [if_pos c6] at H
   have c6b0 := decide_eq_true c6
   clear c6
   replace H := Option.bind_eq_some_iff.mp H
   obtain ⟨⟨t703, t704⟩, A70, H⟩ := H
   (try dsimp only at H)
   have A7 := am A70
   clear A70
   by_cases c8 : t703 > 0
   ·rw [if_pos c8] at H
    have c8b0 := decide_eq_true c8
    clear c8
    by_cases c9 : t693 = 0
    ·rw [if_pos c9] at H
     exact absurd H (by simp)
    ·rw [if_neg c9] at H
     have c9b0 : (t693 == 0) = false := beq_eq_false_iff_ne.mpr c9
     have c9b1 : (t693 != 0) = true := bne_iff_ne.mpr c9
     simp only [Option.some.injEq, Prod.mk.injEq] at H
     obtain ⟨rfl, rfl, rfl, rfl, rfl⟩ := H
     go_enter Try.func108, Try.ntmps108
     go_wp2_with (first | ((with_reducible refine gate_dst (N := 2) rfl ?_); refine be_ 2 #[.int .i64 0, .slice none 0 0] 34 ?_; intro gb692 hg w10 hbox hb; replace HB := bs HB hb; have BK692 := am hbox; have GW692 := am (gk_ hg HK); have GE692 := am (Nat.le_trans HW0.out (gk_ hg HK) : w0.heap.size ≤ gb692); replace HK := am (KeepBut.trans (kn HK) (KeepBut.of_below hb g none) (.inl rfl)); have NB0_692 := am ((by rw [hg]; exact Nat.ne_of_lt (IsS120.lt (show IsS120 w0 _ g s0_0 s0_1 from IsS120.now)) : g ≠ gb692)); have NB692_0 := am ((by rw [hg]; exact Nat.ne_of_gt (IsS120.lt (show IsS120 w0 _ g s0_0 s0_1 from IsS120.now)) : gb692 ≠ g)); replace HI0 := am (IsS120.below (IsS120.now) hb); clear hb hbox hg) | ((with_reducible refine gate_callee (f := 110) rfl ?_); refine gl_ (some 9) Try.func110 #[.pointer (some ⟨g, 0, none⟩)] ?_; (with_reducible refine (spec_l71Any.calls k g s0_0 s0_1 t693 t694 t697 w0 _ ?side1 ?side2 A2.out).mono ?_); (case side1 => exact IsS120.now); (case side2 => exact bn HB); rintro e w11 ⟨v695, rfl, ho0, hi, hb, hk⟩; refine ⟨_, rfl, ?_⟩; replace BK692 := am (KeepBut.blk hk (bkn BK692) NB692_0.out (by simp)); have HO696 := am (Kd.R_lower ho0 (keep_size (w := w) (g := g) (row := none) (kn HK))); replace HK := am (KeepBut.trans (kn HK) hk (.inl rfl)); replace HB := am hb; replace HI0 := am hi; (try clear hb); (try clear hk); (try clear hi); (try clear ho0)) | ((with_reducible refine gate_dst (N := 5) rfl ?_); refine be_ 5 #[.int .i64 0, .slice none 0 0] 34 ?_; intro gb698 hg w12 hbox hb; replace HO696 := am (Kd.R_below (onR HO696) hb); replace HB := bs HB hb; have BK698 := am hbox; have GW698 := am (gk_ hg HK); have GE698 := am (Nat.le_trans HW0.out (gk_ hg HK) : w0.heap.size ≤ gb698); replace HK := am (KeepBut.trans (kn HK) (KeepBut.of_below hb g none) (.inl rfl)); obtain ⟨NB692_698, NB698_692⟩ := nb_ hg BK692; replace BK692 := bb BK692 hb; have NB0_698 := am ((by rw [hg]; exact Nat.ne_of_lt (IsS120.lt (show IsS120 w0 _ g s0_0 t697 from IsS120.now)) : g ≠ gb698)); have NB698_0 := am ((by rw [hg]; exact Nat.ne_of_gt (IsS120.lt (show IsS120 w0 _ g s0_0 t697 from IsS120.now)) : gb698 ≠ g)); replace HI0 := am (IsS120.below (IsS120.now) hb); clear hb hbox hg; obtain ⟨hnb13, hnc13⟩ := n2 NB698_692 NB692_698; obtain ⟨hnb14, hnc14⟩ := n2 NB698_0 NB0_698; obtain ⟨hcz15_0, hcz15_1, hfz15_0, hfz15_1⟩ := c2 BK698; obtain ⟨Ao16, co16, eo16⟩ := Kd.R_slice HO696.out; subst eo16) | ((with_reducible refine gate_callee (f := 136) rfl ?_); refine gl_ (some 12) Try.func136 #[.pointer (some ⟨g, 0, none⟩), .agg #[.int .i64 t693, .slice Ao16 t694.length co16]] ?_; (with_reducible refine (spec_l71Knot.calls k g s0_0 t697 t693 _ _ t694 t699 t700 w0 _ ?side1 ?side2 ?side3 ?side4 A3.out).mono ?_); (case side1 => exact IsS120.now); (case side2 => exact bn HB); (case side3 => exact Kd.C_foot_own (IsS120.apart (show IsS120 w0 _ g s0_0 t697 from IsS120.now) (by (with_reducible repeat (first | apply Kd.R_alloc | apply Kd.R_drewN | apply Kd.R_drew)); exact (Kd.R_mono (Kd.R_far (p := ⟨gb698, 1, none⟩) (Kd.R_far (p := ⟨gb698, 0, none⟩) (Kd.R_types HO696.out BK698.out (by decide)) (fun _ hk => hk.2) (.int .i64 t693)) (fun _ hk => hk.2) (.slice Ao16 t694.length co16)) (fun _ h_ => h_.1))) (by decide)) (fun _ h_ => h_.2)); (case side4 => exact (Kd.R_reads' HO696.out).2.1); rintro e w17 ⟨rfl, hi, hb, hk⟩; refine ⟨_, rfl, ?_⟩; replace BK692 := am (KeepBut.blk hk (bkn BK692) NB692_0.out (by simp)); replace HO696 := am (Kd.R_mono (Kd.R_keep (IsS120.apart (show IsS120 w0 _ g s0_0 t697 from IsS120.now) (by (with_reducible repeat (first | apply Kd.R_alloc | apply Kd.R_drewN | apply Kd.R_drew)); exact (Kd.R_mono (Kd.R_far (p := ⟨gb698, 1, none⟩) (Kd.R_far (p := ⟨gb698, 0, none⟩) (Kd.R_types HO696.out BK698.out (by decide)) (fun _ hk => hk.2) (.int .i64 t693)) (fun _ hk => hk.2) (.slice Ao16 t694.length co16)) (fun _ h_ => h_.1))) (by decide)) hk (fun _ h => h.2)) (fun _ h => h.1)); replace BK698 := am (KeepBut.blk hk (g' := gb698) (o := .cells #[.int .i64 t693, .slice Ao16 t694.length co16] 34 (0, 0)) (by (with_reducible repeat (first | refine blk_drewN ?_ _ | refine blk_drew ?_ | refine blk_alloc ?_ _)); refine blk_put (cs := #[.int .i64 t693, .slice none 0 0]) ?_ 1 _ rfl; (with_reducible repeat (first | refine blk_drewN ?_ _ | refine blk_drew ?_ | refine blk_alloc ?_ _)); refine blk_put (cs := #[.int .i64 0, .slice none 0 0]) ?_ 0 _ rfl; (with_reducible repeat (first | refine blk_drewN ?_ _ | refine blk_drew ?_ | refine blk_alloc ?_ _)); exact BK698.out) NB698_0.out (by simp)); replace HK := am (KeepBut.trans (kn HK) hk (.inl rfl)); replace HB := am hb; replace HI0 := am hi; (try clear hb); (try clear hk); (try clear hi); obtain ⟨hcz18_0, hcz18_1, hfz18_0, hfz18_1⟩ := c2 BK698) | ((with_reducible refine gate_callee (f := 136) rfl ?_); refine gl_ (some 15) Try.func136 #[.pointer (some ⟨g, 0, none⟩), .agg #[.int .i64 t693, .slice Ao16 t694.length co16]] ?_; (with_reducible refine (spec_l71Knot.calls k g s0_0 t700 t693 _ _ t694 t701 t702 w0 _ ?side1 ?side2 ?side3 ?side4 A4.out).mono ?_); (case side1 => exact IsS120.now); (case side2 => exact bn HB); (case side3 => exact Kd.C_foot_own (IsS120.apart (show IsS120 w0 _ g s0_0 t700 from IsS120.now) (onR HO696) (by decide)) (fun _ h_ => h_.2)); (case side4 => exact (Kd.R_reads' HO696.out).2.1); rintro e w19 ⟨rfl, hi, hb, hk⟩; refine ⟨_, rfl, ?_⟩; replace BK692 := am (KeepBut.blk hk (bkn BK692) NB692_0.out (by simp)); replace HO696 := am (Kd.R_mono (Kd.R_keep (IsS120.apart (show IsS120 w0 _ g s0_0 t700 from IsS120.now) (onR HO696) (by decide)) hk (fun _ h => h.2)) (fun _ h => h.1)); replace BK698 := am (KeepBut.blk hk (bkn BK698) NB698_0.out (by simp)); replace HK := am (KeepBut.trans (kn HK) hk (.inl rfl)); replace HB := am hb; replace HI0 := am hi; (try clear hb); (try clear hk); (try clear hi); obtain ⟨hcz20_0, hcz20_1, hfz20_0, hfz20_1⟩ := c2 BK698) | (go_at_call 126; (with_reducible refine (spec_l6Rd_pick.calls k g s0_0 t702 8 t703 t704 w0 _ ?side1 ?side2 A7.out).mono ?_); (case side1 => exact IsS120.now); (case side2 => exact bn HB); rintro e w21 ⟨rfl, hi, hb, hk⟩; replace BK692 := am (KeepBut.blk hk (bkn BK692) NB692_0.out (by simp)); replace HO696 := am (Kd.R_mono (Kd.R_keep (IsS120.apart (show IsS120 w0 _ g s0_0 t702 from IsS120.now) (onR HO696) (by decide)) hk (fun _ h => h.2)) (fun _ h => h.1)); replace BK698 := am (KeepBut.blk hk (bkn BK698) NB698_0.out (by simp)); replace HK := am (KeepBut.trans (kn HK) hk (.inl rfl)); replace HB := am hb; replace HI0 := am hi; (try clear hb); (try clear hk); (try clear hi); obtain ⟨hcz22_0, hcz22_1, hfz22_0, hfz22_1⟩ := c2 BK698; obtain ⟨hnb23, hnc23⟩ := n2 NB692_0 NB0_692; obtain ⟨hcz24_0, hcz24_1, hfz24_0, hfz24_1⟩ := c2 BK692))
     refine bodyPost_ret (results_ctt rfl _ _ gb692 34 #[.int .i64 t693, .slice Ao16 t694.length co16] (0, 0) _ rfl (by (with_reducible repeat (first | refine blk_drewN ?_ _ | refine blk_drew ?_ | refine blk_alloc ?_ _)); refine blk_put (cs := #[.int .i64 t693, .slice none 0 0]) ?_ 1 _ rfl; (with_reducible repeat (first | refine blk_drewN ?_ _ | refine blk_drew ?_ | refine blk_alloc ?_ _)); refine blk_put (cs := #[.int .i64 0, .slice none 0 0]) ?_ 0 _ rfl; (with_reducible repeat (first | refine blk_drewN ?_ _ | refine blk_drew ?_ | refine blk_alloc ?_ _)); exact BK692.out) Try.underlying34 rfl (by kernel_rfl)) rfl ?_
     exact ⟨_, by first | rfl | (simp [errW_none, errW_some] <;> rfl) | (simp [*, errW_none, errW_some] <;> rfl), by (with_reducible repeat (first | apply Kd.R_alloc | apply Kd.R_drewN | apply Kd.R_drew)); exact Kd.R_mono (Kd.R_far (p := ⟨gb692, 1, none⟩) (Kd.R_far (p := ⟨gb692, 0, none⟩) (Kd.R_types HO696.out BK692.out (by decide)) (fun _ hk => hk.2) (.int .i64 t693)) (fun _ hk => hk.2) (.slice Ao16 t694.length co16)) (fun _ hk => trivial), IsS120.now, bn HB, kn HK⟩
   ·rw [if_neg c8] at H
    have c8b0 := decide_eq_false c8
    clear c8
    simp only [Option.some.injEq, Prod.mk.injEq] at H
    obtain ⟨rfl, rfl, rfl, rfl, rfl⟩ := H
    go_enter Try.func108, Try.ntmps108
    go_wp2_with (first | ((with_reducible refine gate_dst (N := 2) rfl ?_); refine be_ 2 #[.int .i64 0, .slice none 0 0] 34 ?_; intro gb692 hg w25 hbox hb; replace HB := bs HB hb; have BK692 := am hbox; have GW692 := am (gk_ hg HK); have GE692 := am (Nat.le_trans HW0.out (gk_ hg HK) : w0.heap.size ≤ gb692); replace HK := am (KeepBut.trans (kn HK) (KeepBut.of_below hb g none) (.inl rfl)); have NB0_692 := am ((by rw [hg]; exact Nat.ne_of_lt (IsS120.lt (show IsS120 w0 _ g s0_0 s0_1 from IsS120.now)) : g ≠ gb692)); have NB692_0 := am ((by rw [hg]; exact Nat.ne_of_gt (IsS120.lt (show IsS120 w0 _ g s0_0 s0_1 from IsS120.now)) : gb692 ≠ g)); replace HI0 := am (IsS120.below (IsS120.now) hb); clear hb hbox hg) | ((with_reducible refine gate_callee (f := 110) rfl ?_); refine gl_ (some 9) Try.func110 #[.pointer (some ⟨g, 0, none⟩)] ?_; (with_reducible refine (spec_l71Any.calls k g s0_0 s0_1 t693 t694 t697 w0 _ ?side1 ?side2 A2.out).mono ?_); (case side1 => exact IsS120.now); (case side2 => exact bn HB); rintro e w26 ⟨v695, rfl, ho0, hi, hb, hk⟩; refine ⟨_, rfl, ?_⟩; replace BK692 := am (KeepBut.blk hk (bkn BK692) NB692_0.out (by simp)); have HO696 := am (Kd.R_lower ho0 (keep_size (w := w) (g := g) (row := none) (kn HK))); replace HK := am (KeepBut.trans (kn HK) hk (.inl rfl)); replace HB := am hb; replace HI0 := am hi; (try clear hb); (try clear hk); (try clear hi); (try clear ho0)) | ((with_reducible refine gate_dst (N := 5) rfl ?_); refine be_ 5 #[.int .i64 0, .slice none 0 0] 34 ?_; intro gb698 hg w27 hbox hb; replace HO696 := am (Kd.R_below (onR HO696) hb); replace HB := bs HB hb; have BK698 := am hbox; have GW698 := am (gk_ hg HK); have GE698 := am (Nat.le_trans HW0.out (gk_ hg HK) : w0.heap.size ≤ gb698); replace HK := am (KeepBut.trans (kn HK) (KeepBut.of_below hb g none) (.inl rfl)); obtain ⟨NB692_698, NB698_692⟩ := nb_ hg BK692; replace BK692 := bb BK692 hb; have NB0_698 := am ((by rw [hg]; exact Nat.ne_of_lt (IsS120.lt (show IsS120 w0 _ g s0_0 t697 from IsS120.now)) : g ≠ gb698)); have NB698_0 := am ((by rw [hg]; exact Nat.ne_of_gt (IsS120.lt (show IsS120 w0 _ g s0_0 t697 from IsS120.now)) : gb698 ≠ g)); replace HI0 := am (IsS120.below (IsS120.now) hb); clear hb hbox hg; obtain ⟨hnb28, hnc28⟩ := n2 NB698_692 NB692_698; obtain ⟨hnb29, hnc29⟩ := n2 NB698_0 NB0_698; obtain ⟨hcz30_0, hcz30_1, hfz30_0, hfz30_1⟩ := c2 BK698; obtain ⟨Ao31, co31, eo31⟩ := Kd.R_slice HO696.out; subst eo31) | ((with_reducible refine gate_callee (f := 136) rfl ?_); refine gl_ (some 12) Try.func136 #[.pointer (some ⟨g, 0, none⟩), .agg #[.int .i64 t693, .slice Ao31 t694.length co31]] ?_; (with_reducible refine (spec_l71Knot.calls k g s0_0 t697 t693 _ _ t694 t699 t700 w0 _ ?side1 ?side2 ?side3 ?side4 A3.out).mono ?_); (case side1 => exact IsS120.now); (case side2 => exact bn HB); (case side3 => exact Kd.C_foot_own (IsS120.apart (show IsS120 w0 _ g s0_0 t697 from IsS120.now) (by (with_reducible repeat (first | apply Kd.R_alloc | apply Kd.R_drewN | apply Kd.R_drew)); exact (Kd.R_mono (Kd.R_far (p := ⟨gb698, 1, none⟩) (Kd.R_far (p := ⟨gb698, 0, none⟩) (Kd.R_types HO696.out BK698.out (by decide)) (fun _ hk => hk.2) (.int .i64 t693)) (fun _ hk => hk.2) (.slice Ao31 t694.length co31)) (fun _ h_ => h_.1))) (by decide)) (fun _ h_ => h_.2)); (case side4 => exact (Kd.R_reads' HO696.out).2.1); rintro e w32 ⟨rfl, hi, hb, hk⟩; refine ⟨_, rfl, ?_⟩; replace BK692 := am (KeepBut.blk hk (bkn BK692) NB692_0.out (by simp)); replace HO696 := am (Kd.R_mono (Kd.R_keep (IsS120.apart (show IsS120 w0 _ g s0_0 t697 from IsS120.now) (by (with_reducible repeat (first | apply Kd.R_alloc | apply Kd.R_drewN | apply Kd.R_drew)); exact (Kd.R_mono (Kd.R_far (p := ⟨gb698, 1, none⟩) (Kd.R_far (p := ⟨gb698, 0, none⟩) (Kd.R_types HO696.out BK698.out (by decide)) (fun _ hk => hk.2) (.int .i64 t693)) (fun _ hk => hk.2) (.slice Ao31 t694.length co31)) (fun _ h_ => h_.1))) (by decide)) hk (fun _ h => h.2)) (fun _ h => h.1)); replace BK698 := am (KeepBut.blk hk (g' := gb698) (o := .cells #[.int .i64 t693, .slice Ao31 t694.length co31] 34 (0, 0)) (by (with_reducible repeat (first | refine blk_drewN ?_ _ | refine blk_drew ?_ | refine blk_alloc ?_ _)); refine blk_put (cs := #[.int .i64 t693, .slice none 0 0]) ?_ 1 _ rfl; (with_reducible repeat (first | refine blk_drewN ?_ _ | refine blk_drew ?_ | refine blk_alloc ?_ _)); refine blk_put (cs := #[.int .i64 0, .slice none 0 0]) ?_ 0 _ rfl; (with_reducible repeat (first | refine blk_drewN ?_ _ | refine blk_drew ?_ | refine blk_alloc ?_ _)); exact BK698.out) NB698_0.out (by simp)); replace HK := am (KeepBut.trans (kn HK) hk (.inl rfl)); replace HB := am hb; replace HI0 := am hi; (try clear hb); (try clear hk); (try clear hi); obtain ⟨hcz33_0, hcz33_1, hfz33_0, hfz33_1⟩ := c2 BK698) | ((with_reducible refine gate_callee (f := 136) rfl ?_); refine gl_ (some 15) Try.func136 #[.pointer (some ⟨g, 0, none⟩), .agg #[.int .i64 t693, .slice Ao31 t694.length co31]] ?_; (with_reducible refine (spec_l71Knot.calls k g s0_0 t700 t693 _ _ t694 t701 t702 w0 _ ?side1 ?side2 ?side3 ?side4 A4.out).mono ?_); (case side1 => exact IsS120.now); (case side2 => exact bn HB); (case side3 => exact Kd.C_foot_own (IsS120.apart (show IsS120 w0 _ g s0_0 t700 from IsS120.now) (onR HO696) (by decide)) (fun _ h_ => h_.2)); (case side4 => exact (Kd.R_reads' HO696.out).2.1); rintro e w34 ⟨rfl, hi, hb, hk⟩; refine ⟨_, rfl, ?_⟩; replace BK692 := am (KeepBut.blk hk (bkn BK692) NB692_0.out (by simp)); replace HO696 := am (Kd.R_mono (Kd.R_keep (IsS120.apart (show IsS120 w0 _ g s0_0 t700 from IsS120.now) (onR HO696) (by decide)) hk (fun _ h => h.2)) (fun _ h => h.1)); replace BK698 := am (KeepBut.blk hk (bkn BK698) NB698_0.out (by simp)); replace HK := am (KeepBut.trans (kn HK) hk (.inl rfl)); replace HB := am hb; replace HI0 := am hi; (try clear hb); (try clear hk); (try clear hi); obtain ⟨hcz35_0, hcz35_1, hfz35_0, hfz35_1⟩ := c2 BK698) | (go_at_call 126; (with_reducible refine (spec_l6Rd_pick.calls k g s0_0 t702 8 t703 t704 w0 _ ?side1 ?side2 A7.out).mono ?_); (case side1 => exact IsS120.now); (case side2 => exact bn HB); rintro e w36 ⟨rfl, hi, hb, hk⟩; replace BK692 := am (KeepBut.blk hk (bkn BK692) NB692_0.out (by simp)); replace HO696 := am (Kd.R_mono (Kd.R_keep (IsS120.apart (show IsS120 w0 _ g s0_0 t702 from IsS120.now) (onR HO696) (by decide)) hk (fun _ h => h.2)) (fun _ h => h.1)); replace BK698 := am (KeepBut.blk hk (bkn BK698) NB698_0.out (by simp)); replace HK := am (KeepBut.trans (kn HK) hk (.inl rfl)); replace HB := am hb; replace HI0 := am hi; (try clear hb); (try clear hk); (try clear hi); obtain ⟨hcz37_0, hcz37_1, hfz37_0, hfz37_1⟩ := c2 BK698; obtain ⟨hnb38, hnc38⟩ := n2 NB692_0 NB0_692; obtain ⟨hcz39_0, hcz39_1, hfz39_0, hfz39_1⟩ := c2 BK692))
    refine bodyPost_ret (results_ctt rfl _ _ gb692 34 #[.int .i64 t693, .slice Ao31 t694.length co31] (0, 0) _ rfl (by (with_reducible repeat (first | refine blk_drewN ?_ _ | refine blk_drew ?_ | refine blk_alloc ?_ _)); refine blk_put (cs := #[.int .i64 t693, .slice none 0 0]) ?_ 1 _ rfl; (with_reducible repeat (first | refine blk_drewN ?_ _ | refine blk_drew ?_ | refine blk_alloc ?_ _)); refine blk_put (cs := #[.int .i64 0, .slice none 0 0]) ?_ 0 _ rfl; (with_reducible repeat (first | refine blk_drewN ?_ _ | refine blk_drew ?_ | refine blk_alloc ?_ _)); exact BK692.out) Try.underlying34 rfl (by kernel_rfl)) rfl ?_
    exact ⟨_, by first | rfl | (simp [errW_none, errW_some] <;> rfl) | (simp [*, errW_none, errW_some] <;> rfl), by (with_reducible repeat (first | apply Kd.R_alloc | apply Kd.R_drewN | apply Kd.R_drew)); exact Kd.R_mono (Kd.R_far (p := ⟨gb692, 1, none⟩) (Kd.R_far (p := ⟨gb692, 0, none⟩) (Kd.R_types HO696.out BK692.out (by decide)) (fun _ hk => hk.2) (.int .i64 t693)) (fun _ hk => hk.2) (.slice Ao31 t694.length co31)) (fun _ hk => trivial), IsS120.now, bn HB, kn HK⟩
  ·rw [if_neg c6] at H
   have c6b0 := decide_eq_false c6
   clear c6
   simp only [Option.some.injEq, Prod.mk.injEq] at H
   obtain ⟨rfl, rfl, rfl, rfl, rfl⟩ := H
   go_enter Try.func108, Try.ntmps108
   go_wp2_with (first | ((with_reducible refine gate_dst (N := 2) rfl ?_); refine be_ 2 #[.int .i64 0, .slice none 0 0] 34 ?_; intro gb692 hg w40 hbox hb; replace HB := bs HB hb; have BK692 := am hbox; have GW692 := am (gk_ hg HK); have GE692 := am (Nat.le_trans HW0.out (gk_ hg HK) : w0.heap.size ≤ gb692); replace HK := am (KeepBut.trans (kn HK) (KeepBut.of_below hb g none) (.inl rfl)); have NB0_692 := am ((by rw [hg]; exact Nat.ne_of_lt (IsS120.lt (show IsS120 w0 _ g s0_0 s0_1 from IsS120.now)) : g ≠ gb692)); have NB692_0 := am ((by rw [hg]; exact Nat.ne_of_gt (IsS120.lt (show IsS120 w0 _ g s0_0 s0_1 from IsS120.now)) : gb692 ≠ g)); replace HI0 := am (IsS120.below (IsS120.now) hb); clear hb hbox hg) | ((with_reducible refine gate_callee (f := 110) rfl ?_); refine gl_ (some 9) Try.func110 #[.pointer (some ⟨g, 0, none⟩)] ?_; (with_reducible refine (spec_l71Any.calls k g s0_0 s0_1 t693 t694 t697 w0 _ ?side1 ?side2 A2.out).mono ?_); (case side1 => exact IsS120.now); (case side2 => exact bn HB); rintro e w41 ⟨v695, rfl, ho0, hi, hb, hk⟩; refine ⟨_, rfl, ?_⟩; replace BK692 := am (KeepBut.blk hk (bkn BK692) NB692_0.out (by simp)); have HO696 := am (Kd.R_lower ho0 (keep_size (w := w) (g := g) (row := none) (kn HK))); replace HK := am (KeepBut.trans (kn HK) hk (.inl rfl)); replace HB := am hb; replace HI0 := am hi; (try clear hb); (try clear hk); (try clear hi); (try clear ho0)) | ((with_reducible refine gate_dst (N := 5) rfl ?_); refine be_ 5 #[.int .i64 0, .slice none 0 0] 34 ?_; intro gb698 hg w42 hbox hb; replace HO696 := am (Kd.R_below (onR HO696) hb); replace HB := bs HB hb; have BK698 := am hbox; have GW698 := am (gk_ hg HK); have GE698 := am (Nat.le_trans HW0.out (gk_ hg HK) : w0.heap.size ≤ gb698); replace HK := am (KeepBut.trans (kn HK) (KeepBut.of_below hb g none) (.inl rfl)); obtain ⟨NB692_698, NB698_692⟩ := nb_ hg BK692; replace BK692 := bb BK692 hb; have NB0_698 := am ((by rw [hg]; exact Nat.ne_of_lt (IsS120.lt (show IsS120 w0 _ g s0_0 t697 from IsS120.now)) : g ≠ gb698)); have NB698_0 := am ((by rw [hg]; exact Nat.ne_of_gt (IsS120.lt (show IsS120 w0 _ g s0_0 t697 from IsS120.now)) : gb698 ≠ g)); replace HI0 := am (IsS120.below (IsS120.now) hb); clear hb hbox hg; obtain ⟨hnb43, hnc43⟩ := n2 NB698_692 NB692_698; obtain ⟨hnb44, hnc44⟩ := n2 NB698_0 NB0_698; obtain ⟨hcz45_0, hcz45_1, hfz45_0, hfz45_1⟩ := c2 BK698; obtain ⟨Ao46, co46, eo46⟩ := Kd.R_slice HO696.out; subst eo46) | ((with_reducible refine gate_callee (f := 136) rfl ?_); refine gl_ (some 12) Try.func136 #[.pointer (some ⟨g, 0, none⟩), .agg #[.int .i64 t693, .slice Ao46 t694.length co46]] ?_; (with_reducible refine (spec_l71Knot.calls k g s0_0 t697 t693 _ _ t694 t699 t700 w0 _ ?side1 ?side2 ?side3 ?side4 A3.out).mono ?_); (case side1 => exact IsS120.now); (case side2 => exact bn HB); (case side3 => exact Kd.C_foot_own (IsS120.apart (show IsS120 w0 _ g s0_0 t697 from IsS120.now) (by (with_reducible repeat (first | apply Kd.R_alloc | apply Kd.R_drewN | apply Kd.R_drew)); exact (Kd.R_mono (Kd.R_far (p := ⟨gb698, 1, none⟩) (Kd.R_far (p := ⟨gb698, 0, none⟩) (Kd.R_types HO696.out BK698.out (by decide)) (fun _ hk => hk.2) (.int .i64 t693)) (fun _ hk => hk.2) (.slice Ao46 t694.length co46)) (fun _ h_ => h_.1))) (by decide)) (fun _ h_ => h_.2)); (case side4 => exact (Kd.R_reads' HO696.out).2.1); rintro e w47 ⟨rfl, hi, hb, hk⟩; refine ⟨_, rfl, ?_⟩; replace BK692 := am (KeepBut.blk hk (bkn BK692) NB692_0.out (by simp)); replace HO696 := am (Kd.R_mono (Kd.R_keep (IsS120.apart (show IsS120 w0 _ g s0_0 t697 from IsS120.now) (by (with_reducible repeat (first | apply Kd.R_alloc | apply Kd.R_drewN | apply Kd.R_drew)); exact (Kd.R_mono (Kd.R_far (p := ⟨gb698, 1, none⟩) (Kd.R_far (p := ⟨gb698, 0, none⟩) (Kd.R_types HO696.out BK698.out (by decide)) (fun _ hk => hk.2) (.int .i64 t693)) (fun _ hk => hk.2) (.slice Ao46 t694.length co46)) (fun _ h_ => h_.1))) (by decide)) hk (fun _ h => h.2)) (fun _ h => h.1)); replace BK698 := am (KeepBut.blk hk (g' := gb698) (o := .cells #[.int .i64 t693, .slice Ao46 t694.length co46] 34 (0, 0)) (by (with_reducible repeat (first | refine blk_drewN ?_ _ | refine blk_drew ?_ | refine blk_alloc ?_ _)); refine blk_put (cs := #[.int .i64 t693, .slice none 0 0]) ?_ 1 _ rfl; (with_reducible repeat (first | refine blk_drewN ?_ _ | refine blk_drew ?_ | refine blk_alloc ?_ _)); refine blk_put (cs := #[.int .i64 0, .slice none 0 0]) ?_ 0 _ rfl; (with_reducible repeat (first | refine blk_drewN ?_ _ | refine blk_drew ?_ | refine blk_alloc ?_ _)); exact BK698.out) NB698_0.out (by simp)); replace HK := am (KeepBut.trans (kn HK) hk (.inl rfl)); replace HB := am hb; replace HI0 := am hi; (try clear hb); (try clear hk); (try clear hi); obtain ⟨hcz48_0, hcz48_1, hfz48_0, hfz48_1⟩ := c2 BK698) | ((with_reducible refine gate_callee (f := 136) rfl ?_); refine gl_ (some 15) Try.func136 #[.pointer (some ⟨g, 0, none⟩), .agg #[.int .i64 t693, .slice Ao46 t694.length co46]] ?_; (with_reducible refine (spec_l71Knot.calls k g s0_0 t700 t693 _ _ t694 t701 t702 w0 _ ?side1 ?side2 ?side3 ?side4 A4.out).mono ?_); (case side1 => exact IsS120.now); (case side2 => exact bn HB); (case side3 => exact Kd.C_foot_own (IsS120.apart (show IsS120 w0 _ g s0_0 t700 from IsS120.now) (onR HO696) (by decide)) (fun _ h_ => h_.2)); (case side4 => exact (Kd.R_reads' HO696.out).2.1); rintro e w49 ⟨rfl, hi, hb, hk⟩; refine ⟨_, rfl, ?_⟩; replace BK692 := am (KeepBut.blk hk (bkn BK692) NB692_0.out (by simp)); replace HO696 := am (Kd.R_mono (Kd.R_keep (IsS120.apart (show IsS120 w0 _ g s0_0 t700 from IsS120.now) (onR HO696) (by decide)) hk (fun _ h => h.2)) (fun _ h => h.1)); replace BK698 := am (KeepBut.blk hk (bkn BK698) NB698_0.out (by simp)); replace HK := am (KeepBut.trans (kn HK) hk (.inl rfl)); replace HB := am hb; replace HI0 := am hi; (try clear hb); (try clear hk); (try clear hi); obtain ⟨hcz50_0, hcz50_1, hfz50_0, hfz50_1⟩ := c2 BK698; obtain ⟨hnb51, hnc51⟩ := n2 NB692_0 NB0_692; obtain ⟨hcz52_0, hcz52_1, hfz52_0, hfz52_1⟩ := c2 BK692))
   refine bodyPost_ret (results_ctt rfl _ _ gb692 34 #[.int .i64 t693, .slice Ao46 t694.length co46] (0, 0) _ rfl (by (with_reducible repeat (first | refine blk_drewN ?_ _ | refine blk_drew ?_ | refine blk_alloc ?_ _)); refine blk_put (cs := #[.int .i64 t693, .slice none 0 0]) ?_ 1 _ rfl; (with_reducible repeat (first | refine blk_drewN ?_ _ | refine blk_drew ?_ | refine blk_alloc ?_ _)); refine blk_put (cs := #[.int .i64 0, .slice none 0 0]) ?_ 0 _ rfl; (with_reducible repeat (first | refine blk_drewN ?_ _ | refine blk_drew ?_ | refine blk_alloc ?_ _)); exact BK692.out) Try.underlying34 rfl (by kernel_rfl)) rfl ?_
   exact ⟨_, by first | rfl | (simp [errW_none, errW_some] <;> rfl) | (simp [*, errW_none, errW_some] <;> rfl), by (with_reducible repeat (first | apply Kd.R_alloc | apply Kd.R_drewN | apply Kd.R_drew)); exact Kd.R_mono (Kd.R_far (p := ⟨gb692, 1, none⟩) (Kd.R_far (p := ⟨gb692, 0, none⟩) (Kd.R_types HO696.out BK692.out (by decide)) (fun _ hk => hk.2) (.int .i64 t693)) (fun _ hk => hk.2) (.slice Ao46 t694.length co46)) (fun _ hk => trivial), IsS120.now, bn HB, kn HK⟩
 ·rw [if_neg c5] at H
  have c5b0 : (t699 == t701) = false := beq_eq_false_iff_ne.mpr c5
  have c5b1 : (t699 != t701) = true := bne_iff_ne.mpr c5
  simp only [Option.some.injEq, Prod.mk.injEq] at H
  obtain ⟨rfl, rfl, rfl, rfl, rfl⟩ := H
  go_enter Try.func108, Try.ntmps108
  go_wp2_with (first | ((with_reducible refine gate_dst (N := 2) rfl ?_); refine be_ 2 #[.int .i64 0, .slice none 0 0] 34 ?_; intro gb692 hg w53 hbox hb; replace HB := bs HB hb; have BK692 := am hbox; have GW692 := am (gk_ hg HK); have GE692 := am (Nat.le_trans HW0.out (gk_ hg HK) : w0.heap.size ≤ gb692); replace HK := am (KeepBut.trans (kn HK) (KeepBut.of_below hb g none) (.inl rfl)); have NB0_692 := am ((by rw [hg]; exact Nat.ne_of_lt (IsS120.lt (show IsS120 w0 _ g s0_0 s0_1 from IsS120.now)) : g ≠ gb692)); have NB692_0 := am ((by rw [hg]; exact Nat.ne_of_gt (IsS120.lt (show IsS120 w0 _ g s0_0 s0_1 from IsS120.now)) : gb692 ≠ g)); replace HI0 := am (IsS120.below (IsS120.now) hb); clear hb hbox hg) | ((with_reducible refine gate_callee (f := 110) rfl ?_); refine gl_ (some 9) Try.func110 #[.pointer (some ⟨g, 0, none⟩)] ?_; (with_reducible refine (spec_l71Any.calls k g s0_0 s0_1 t693 t694 t697 w0 _ ?side1 ?side2 A2.out).mono ?_); (case side1 => exact IsS120.now); (case side2 => exact bn HB); rintro e w54 ⟨v695, rfl, ho0, hi, hb, hk⟩; refine ⟨_, rfl, ?_⟩; replace BK692 := am (KeepBut.blk hk (bkn BK692) NB692_0.out (by simp)); have HO696 := am (Kd.R_lower ho0 (keep_size (w := w) (g := g) (row := none) (kn HK))); replace HK := am (KeepBut.trans (kn HK) hk (.inl rfl)); replace HB := am hb; replace HI0 := am hi; (try clear hb); (try clear hk); (try clear hi); (try clear ho0)) | ((with_reducible refine gate_dst (N := 5) rfl ?_); refine be_ 5 #[.int .i64 0, .slice none 0 0] 34 ?_; intro gb698 hg w55 hbox hb; replace HO696 := am (Kd.R_below (onR HO696) hb); replace HB := bs HB hb; have BK698 := am hbox; have GW698 := am (gk_ hg HK); have GE698 := am (Nat.le_trans HW0.out (gk_ hg HK) : w0.heap.size ≤ gb698); replace HK := am (KeepBut.trans (kn HK) (KeepBut.of_below hb g none) (.inl rfl)); obtain ⟨NB692_698, NB698_692⟩ := nb_ hg BK692; replace BK692 := bb BK692 hb; have NB0_698 := am ((by rw [hg]; exact Nat.ne_of_lt (IsS120.lt (show IsS120 w0 _ g s0_0 t697 from IsS120.now)) : g ≠ gb698)); have NB698_0 := am ((by rw [hg]; exact Nat.ne_of_gt (IsS120.lt (show IsS120 w0 _ g s0_0 t697 from IsS120.now)) : gb698 ≠ g)); replace HI0 := am (IsS120.below (IsS120.now) hb); clear hb hbox hg; obtain ⟨hnb56, hnc56⟩ := n2 NB698_692 NB692_698; obtain ⟨hnb57, hnc57⟩ := n2 NB698_0 NB0_698; obtain ⟨hcz58_0, hcz58_1, hfz58_0, hfz58_1⟩ := c2 BK698; obtain ⟨Ao59, co59, eo59⟩ := Kd.R_slice HO696.out; subst eo59) | ((with_reducible refine gate_callee (f := 136) rfl ?_); refine gl_ (some 12) Try.func136 #[.pointer (some ⟨g, 0, none⟩), .agg #[.int .i64 t693, .slice Ao59 t694.length co59]] ?_; (with_reducible refine (spec_l71Knot.calls k g s0_0 t697 t693 _ _ t694 t699 t700 w0 _ ?side1 ?side2 ?side3 ?side4 A3.out).mono ?_); (case side1 => exact IsS120.now); (case side2 => exact bn HB); (case side3 => exact Kd.C_foot_own (IsS120.apart (show IsS120 w0 _ g s0_0 t697 from IsS120.now) (by (with_reducible repeat (first | apply Kd.R_alloc | apply Kd.R_drewN | apply Kd.R_drew)); exact (Kd.R_mono (Kd.R_far (p := ⟨gb698, 1, none⟩) (Kd.R_far (p := ⟨gb698, 0, none⟩) (Kd.R_types HO696.out BK698.out (by decide)) (fun _ hk => hk.2) (.int .i64 t693)) (fun _ hk => hk.2) (.slice Ao59 t694.length co59)) (fun _ h_ => h_.1))) (by decide)) (fun _ h_ => h_.2)); (case side4 => exact (Kd.R_reads' HO696.out).2.1); rintro e w60 ⟨rfl, hi, hb, hk⟩; refine ⟨_, rfl, ?_⟩; replace BK692 := am (KeepBut.blk hk (bkn BK692) NB692_0.out (by simp)); replace HO696 := am (Kd.R_mono (Kd.R_keep (IsS120.apart (show IsS120 w0 _ g s0_0 t697 from IsS120.now) (by (with_reducible repeat (first | apply Kd.R_alloc | apply Kd.R_drewN | apply Kd.R_drew)); exact (Kd.R_mono (Kd.R_far (p := ⟨gb698, 1, none⟩) (Kd.R_far (p := ⟨gb698, 0, none⟩) (Kd.R_types HO696.out BK698.out (by decide)) (fun _ hk => hk.2) (.int .i64 t693)) (fun _ hk => hk.2) (.slice Ao59 t694.length co59)) (fun _ h_ => h_.1))) (by decide)) hk (fun _ h => h.2)) (fun _ h => h.1)); replace BK698 := am (KeepBut.blk hk (g' := gb698) (o := .cells #[.int .i64 t693, .slice Ao59 t694.length co59] 34 (0, 0)) (by (with_reducible repeat (first | refine blk_drewN ?_ _ | refine blk_drew ?_ | refine blk_alloc ?_ _)); refine blk_put (cs := #[.int .i64 t693, .slice none 0 0]) ?_ 1 _ rfl; (with_reducible repeat (first | refine blk_drewN ?_ _ | refine blk_drew ?_ | refine blk_alloc ?_ _)); refine blk_put (cs := #[.int .i64 0, .slice none 0 0]) ?_ 0 _ rfl; (with_reducible repeat (first | refine blk_drewN ?_ _ | refine blk_drew ?_ | refine blk_alloc ?_ _)); exact BK698.out) NB698_0.out (by simp)); replace HK := am (KeepBut.trans (kn HK) hk (.inl rfl)); replace HB := am hb; replace HI0 := am hi; (try clear hb); (try clear hk); (try clear hi); obtain ⟨hcz61_0, hcz61_1, hfz61_0, hfz61_1⟩ := c2 BK698) | ((with_reducible refine gate_callee (f := 136) rfl ?_); refine gl_ (some 15) Try.func136 #[.pointer (some ⟨g, 0, none⟩), .agg #[.int .i64 t693, .slice Ao59 t694.length co59]] ?_; (with_reducible refine (spec_l71Knot.calls k g s0_0 t700 t693 _ _ t694 t701 t702 w0 _ ?side1 ?side2 ?side3 ?side4 A4.out).mono ?_); (case side1 => exact IsS120.now); (case side2 => exact bn HB); (case side3 => exact Kd.C_foot_own (IsS120.apart (show IsS120 w0 _ g s0_0 t700 from IsS120.now) (onR HO696) (by decide)) (fun _ h_ => h_.2)); (case side4 => exact (Kd.R_reads' HO696.out).2.1); rintro e w62 ⟨rfl, hi, hb, hk⟩; refine ⟨_, rfl, ?_⟩; replace BK692 := am (KeepBut.blk hk (bkn BK692) NB692_0.out (by simp)); replace HO696 := am (Kd.R_mono (Kd.R_keep (IsS120.apart (show IsS120 w0 _ g s0_0 t700 from IsS120.now) (onR HO696) (by decide)) hk (fun _ h => h.2)) (fun _ h => h.1)); replace BK698 := am (KeepBut.blk hk (bkn BK698) NB698_0.out (by simp)); replace HK := am (KeepBut.trans (kn HK) hk (.inl rfl)); replace HB := am hb; replace HI0 := am hi; (try clear hb); (try clear hk); (try clear hi); obtain ⟨hcz63_0, hcz63_1, hfz63_0, hfz63_1⟩ := c2 BK698; obtain ⟨hnb64, hnc64⟩ := n2 NB692_0 NB0_692; obtain ⟨hcz65_0, hcz65_1, hfz65_0, hfz65_1⟩ := c2 BK692))
  refine bodyPost_ret (results_ctt rfl _ _ gb692 34 #[.int .i64 t693, .slice Ao59 t694.length co59] (0, 0) _ rfl (by (with_reducible repeat (first | refine blk_drewN ?_ _ | refine blk_drew ?_ | refine blk_alloc ?_ _)); refine blk_put (cs := #[.int .i64 t693, .slice none 0 0]) ?_ 1 _ rfl; (with_reducible repeat (first | refine blk_drewN ?_ _ | refine blk_drew ?_ | refine blk_alloc ?_ _)); refine blk_put (cs := #[.int .i64 0, .slice none 0 0]) ?_ 0 _ rfl; (with_reducible repeat (first | refine blk_drewN ?_ _ | refine blk_drew ?_ | refine blk_alloc ?_ _)); exact BK692.out) Try.underlying34 rfl (by kernel_rfl)) rfl ?_
  exact ⟨_, by first | rfl | (simp [errW_none, errW_some] <;> rfl) | (simp [*, errW_none, errW_some] <;> rfl), by (with_reducible repeat (first | apply Kd.R_alloc | apply Kd.R_drewN | apply Kd.R_drew)); exact Kd.R_mono (Kd.R_far (p := ⟨gb692, 1, none⟩) (Kd.R_far (p := ⟨gb692, 0, none⟩) (Kd.R_types HO696.out BK692.out (by decide)) (fun _ hk => hk.2) (.int .i64 t693)) (fun _ hk => hk.2) (.slice Ao59 t694.length co59)) (fun _ hk => trivial), IsS120.now, bn HB, kn HK⟩

end Go.Proofs.Ytdlnnjgjfngccaa.F
