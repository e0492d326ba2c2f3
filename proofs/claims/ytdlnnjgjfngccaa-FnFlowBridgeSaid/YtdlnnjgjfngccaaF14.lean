-- Written by oprint.py (wip/tools) over the kit's print program, for this seat.
import Derived.Test.YtdlnnjgjfngccaaF0
import Derived.Test.YtdlnnjgjfngccaaF13
namespace Go.Proofs.Ytdlnnjgjfngccaa.F
open Go.RowKit Go.Proofs.YtdlnnjgjfngccaaW.PrintWords Go.Proofs.YtdlnnjgjfngccaaW.PrintLast Go.Proofs.YtdlnnjgjfngccaaW.PrintMore
attribute [local go_sem] max2_int min2_int max_two min_two max_three min_three max_four min_four   -- for this text's walks alone
set_option linter.unusedVariables false
set_option linter.unusedSimpArgs false

/-! ### spec_NetOk: function 66 -/
mutual
def spec_NetOk.j0 : Nat → Bool → Int → List (S73) → Option (Bool)
 | 0, _, _, _ => none
 | k + 1, x14, x214000, x214001 => if x14 = true then (some false) else (spec_NetOk.l0 k 0 x214000 x214001)
def spec_NetOk.l0 : Nat → Int → Int → List (S73) → Option (Bool)
 | 0, _, _, _ => none
 | k + 1, x3, x214000, x214001 => if x3 < (x214001.length : Int) then (if 0 ≤ x3 then ((spec_l6In.f ((rd_T73 x214001 x3).f0) 0 (wrap64 (x214000 - 1))).bind fun t217 => (if t217 = true then ((spec_l6In.f ((rd_T73 x214001 x3).f1) (wrap64 (((rd_T73 x214001 x3).f0) + 1)) (wrap64 (x214000 - 1))).bind fun t218 => (if t218 = true then (if x3 > 0 then (if 0 ≤ (wrap64 (x3 - 1)) then (if (wrap64 (x3 - 1)) < (x214001.length : Int) then ((spec_l1Less.f ((rd_T73 x214001 (wrap64 (x3 - 1))).f0) ((rd_T73 x214001 (wrap64 (x3 - 1))).f1) ((rd_T73 x214001 x3).f0) ((rd_T73 x214001 x3).f1)).bind fun t220 => (if t220 = true then (spec_NetOk.l0 k (wrap64 (x3 + 1)) x214000 x214001) else (some false))) else (none)) else (none)) else (spec_NetOk.l0 k (wrap64 (x3 + 1)) x214000 x214001)) else (some false))) else (some false))) else (none)) else (some true)
end
def spec_NetOk.f (k : Nat) (a0_0 : Int) (l0_1 : List (S73)) : Option (Bool) := (spec_l6In.f a0_0 0 8).bind fun t214 => (if t214 = true then (spec_NetOk.j0 k (decide ((l0_1.length : Int) > 64)) a0_0 l0_1) else (spec_NetOk.j0 k true a0_0 l0_1))
theorem spec_NetOk.mono_l : ∀ k, (∀ y0 y1 y2, LeO (spec_NetOk.j0 k y0 y1 y2) (spec_NetOk.j0 (k + 1) y0 y1 y2)) ∧ (∀ y0 y1 y2, LeO (spec_NetOk.l0 k y0 y1 y2) (spec_NetOk.l0 (k + 1) y0 y1 y2))
 | 0 => ⟨fun _ _ _ r h => by simp [spec_NetOk.j0] at h, fun _ _ _ r h => by simp [spec_NetOk.l0] at h⟩
 | k + 1 => by
  obtain ⟨ih0, ih1⟩ := spec_NetOk.mono_l k
  refine ⟨?_, ?_⟩
  ·intro y0 y1 y2
   unfold spec_NetOk.j0
   exact mo_
  ·intro y0 y1 y2
   unfold spec_NetOk.l0
   exact mo_
theorem spec_NetOk.mono : ∀ a0 a1 k, LeO (spec_NetOk.f k a0 a1) (spec_NetOk.f (k + 1) a0 a1) := by
 intro a0 a1 k
 obtain ⟨ih0, ih1⟩ := spec_NetOk.mono_l k
 unfold spec_NetOk.f
 exact mo_
def spec_NetOk.T7 : Bool × List (List Nat × List Nat) := (true, [([], []), ([0], [0]), ([], []), ([2], [2]), ([3], [3]), ([1, 4], [1, 4]), ([5], [5]), ([6, 5], [6]), ([7], [7]), ([8, 7], [7, 8]), ([7], [7]), ([10, 7], [7, 10]), ([11, 7], [7, 11]), ([7], [7]), ([13, 7], [7, 13]), ([14, 7], [7, 14]), ([9, 12, 15, 7, 7], [7, 9, 12, 15]), ([16, 7], [7, 16]), ([7, 17], [7, 17]), ([18, 16], [18]), ([19], [19]), ([20, 19], [19, 20]), ([21, 19, 19], [19, 21]), ([22], [22]), ([23, 22], [22, 23]), ([22], [22]), ([25, 22], [22, 25]), ([24, 26, 22], [22, 24, 26]), ([27, 22], [22, 27]), ([22], [22]), ([28, 29, 22, 22], [22, 28, 29]), ([30, 22], [22, 30]), ([22, 31, 19], [19, 22, 31]), ([19, 32], [19, 32])])
def spec_NetOk.B7 : List Nat := [0, 1, 0, 4, 12, 31, 63, 127, 255, 511, 255, 1279, 3327, 255, 8447, 24831, 65535, 131071, 262143, 524287, 1048575, 2097151, 4194303, 8388607, 16777215, 8388607, 41943039, 134217727, 268435455, 8388607, 1073741823, 2147483647, 4294967295, 8589934591]
theorem spec_NetOk.tab7 : rtab .any (opsOf Try.f66 7) = spec_NetOk.T7 := by kernel_rfl
theorem spec_NetOk.bits7 : waitsOk spec_NetOk.T7.2 spec_NetOk.B7 = true := by kernel_rfl
set_option maxHeartbeats 8000000 in
set_option maxRecDepth 100000 in
theorem spec_NetOk.calls (k : Nat) (a0_0 : Int) (A0_1 : Option Addr) (c0_1 : Nat) (l0_1 : List (S73)) (r : Bool) (w : World) (hr0_1 : Kd.C k73 w A0_1 l0_1.length l0_1) (hc0_1 : l0_1.length ≤ c0_1) (h : spec_NetOk.f k a0_0 l0_1 = some r) :
  Calls Try.prog 66 #[.agg #[.int .i64 a0_0, .slice A0_1 l0_1.length c0_1]] w fun e w' => e = .returned (.bool r) ∧ Below w.heap.size w w' := by
 have hu34 := Try.underlying34
 have hu73 := Try.underlying73
 have HR0_1 := am hr0_1
 have HC0_1 := am hc0_1
 clear hr0_1 hc0_1
 have HB := am (Below.refl w.heap.size w)
 have H : ((spec_l6In.f a0_0 0 8).bind fun t214 => (if t214 = true then (spec_NetOk.j0 k (decide ((l0_1.length : Int) > 64)) a0_0 l0_1) else (spec_NetOk.j0 k true a0_0 l0_1))) = some r := h
 clear h
 have HC2 := am H
 clear H
 go_enter Try.func66, Try.ntmps66
 go_upto_region 1 with (first | ((with_reducible refine gate_dst (N := 1) rfl ?_); refine be_ 1 #[.int .i64 a0_0, .slice A0_1 l0_1.length c0_1] 34 ?_; intro gb213 hg w3 hbox hb; have BK213 := am hbox; have GW213 := am (ge_ hg HB); have GE213 := am (ge_ hg HB); replace HB := bs HB hb; clear hb hbox hg))
 (try simp only [Act.put, List.setIfInBounds_toArray, List.set_cons_zero, List.set_cons_succ])
 go_cut [14] (fun v14 wc => ∃ (kq : Nat) (x14_1 : Bool), v14 = .bool x14_1 ∧ Aside0 (spec_NetOk.j0 kq x14_1 a0_0 l0_1 = some r) ∧ Aside0 (kq ≤ k) ∧ Aside0 (wc.heap[gb213]? = some (.cells #[.int .i64 a0_0, (.slice A0_1 l0_1.length c0_1)] 34 (0, 0))) ∧ Aside0 (Below w.heap.size w wc))
 case first =>
  have H := HC2.out
  clear HC2
  replace H := Option.bind_eq_some_iff.mp H
  obtain ⟨t214, A40, H⟩ := H
  (try dsimp only at H)
  have A4 := am A40
  clear A40
  by_cases c5 : t214 = true
  ·subst c5
   rw [if_pos rfl] at H
   have H' := am H
   clear H
   obtain ⟨hcz6_0, hcz6_1, hfz6_0, hfz6_1⟩ := c2 BK213
   go_wp2_with (first | ((with_reducible refine gate_callee (f := 118) rfl ?_); refine gl_ (some 7) Try.func118 #[.int .i64 a0_0, .int .i64 0, .int .i64 8] ?_; (with_reducible refine (spec_l6In.calls a0_0 0 8 true _ A4.out).mono ?_); rintro e w' ⟨rfl, ⟨nd, rfl⟩⟩; refine ⟨_, rfl, ?_⟩))
   go_meet
   case rel => exact ⟨_, (decide ((l0_1.length : Int) > 64)), (by first | rfl | (simp; done) | (simp [*]; done)), H', ⟨by first | omega | exact Nat.le_refl _⟩, ⟨bkn BK213⟩, ⟨bn HB⟩⟩
  ·replace c5 := Bool.eq_false_iff.mpr c5
   subst c5
   rw [if_neg (show ¬ (false = true) by decide)] at H
   have H' := am H
   clear H
   obtain ⟨hcz7_0, hcz7_1, hfz7_0, hfz7_1⟩ := c2 BK213
   go_wp2_with (first | ((with_reducible refine gate_callee (f := 118) rfl ?_); refine gl_ (some 7) Try.func118 #[.int .i64 a0_0, .int .i64 0, .int .i64 8] ?_; (with_reducible refine (spec_l6In.calls a0_0 0 8 false _ A4.out).mono ?_); rintro e w' ⟨rfl, ⟨nd, rfl⟩⟩; refine ⟨_, rfl, ?_⟩))
   go_meet
   case rel => exact ⟨_, (true), (by first | rfl | (simp; done) | (simp [*]; done)), H', ⟨by first | omega | exact Nat.le_refl _⟩, ⟨bkn BK213⟩, ⟨bn HB⟩⟩
 case rest =>
  clear HC2
  try clear c1
  try clear p2
  try clear c5
  try clear c6
  try clear hcz6_0 hcz6_1 hfz6_0 hfz6_1
  try clear hcz7_0 hcz7_1 hfz7_0 hfz7_1
  obtain ⟨kq, x14_1, rfl, HA, HJ1, BK213, HB⟩ := hcut
  cases kq with
  | zero => exact absurd HA.out (by simp [spec_NetOk.j0])
  | succ kj1 =>
   have H := HA.out
   clear HA
   simp only [spec_NetOk.j0] at H
   by_cases c8 : x14_1 = true
   ·subst c8
    rw [if_pos rfl] at H
    obtain rfl := Option.some.inj H
    go_wp2
    go_ret
    exact ⟨by first | rfl | (simp [errW_none, errW_some] <;> rfl) | (simp [*, errW_none, errW_some] <;> rfl), bn HB⟩
   ·replace c8 := Bool.eq_false_iff.mpr c8
    subst c8
    rw [if_neg (show ¬ (false = true) by decide)] at H
    have H' := am H
    clear H
    go_wp2
    go_loopg [3] kj1 (fun kq v3 w' => ∃ (x3_2 : Int), v3 = .int .i64 x3_2 ∧ Aside0 (spec_NetOk.l0 kq x3_2 a0_0 l0_1 = some r) ∧ Aside0 (kq ≤ kj1) ∧ Aside0 (w'.heap[gb213]? = some (.cells #[.int .i64 a0_0, (.slice A0_1 l0_1.length c0_1)] 34 (0, 0))) ∧ Aside0 (Below w.heap.size w w'))
    case atStart => exact ⟨(0), (by first | rfl | (simp; done) | (simp [*]; done)), H', ⟨Nat.le_refl _⟩, ⟨bkn BK213⟩, ⟨bn HB⟩⟩
    case round =>
     clear H'
     try clear c1
     try clear p2
     try clear c5
     try clear c6
     try clear c8
     try clear hcz6_0 hcz6_1 hfz6_0 hfz6_1
     try clear hcz7_0 hcz7_1 hfz7_0 hfz7_1
     try clear p2
     obtain ⟨x3_2, rfl, HA, HK2, BK213, HB⟩ := hrel
     cases gk with
     | zero => exact absurd HA.out (by simp [spec_NetOk.l0])
     | succ k2 =>
      have H := HA.out
      clear HA
      simp only [spec_NetOk.l0] at H
      by_cases c9 : x3_2 < (l0_1.length : Int)
      ·rw [if_pos c9] at H
       have c9b0 := decide_eq_true c9
       clear c9
       obtain ⟨c10, H⟩ := ig_ H
       have c10b0 := decide_eq_true c10
       clear c10
       replace H := Option.bind_eq_some_iff.mp H
       obtain ⟨t217, A110, H⟩ := H
       (try dsimp only at H)
       have A11 := am A110
       clear A110
       by_cases c12 : t217 = true
       ·subst c12
        rw [if_pos rfl] at H
        replace H := Option.bind_eq_some_iff.mp H
        obtain ⟨t218, A130, H⟩ := H
        (try dsimp only at H)
        have A13 := am A130
        clear A130
        by_cases c14 : t218 = true
        ·subst c14
         rw [if_pos rfl] at H
         by_cases c15 : x3_2 > 0
         ·rw [if_pos c15] at H
          have c15b0 := decide_eq_true c15
          clear c15
          obtain ⟨ji16, hji16⟩ : ∃ j_ : Int, (wrap64 (x3_2 - 1)) = j_ := ⟨_, rfl⟩
          replace H : (if 0 ≤ (ji16) then (if (ji16) < (l0_1.length : Int) then ((spec_l1Less.f ((rd_T73 l0_1 (ji16)).f0) ((rd_T73 l0_1 (ji16)).f1) ((rd_T73 l0_1 x3_2).f0) ((rd_T73 l0_1 x3_2).f1)).bind fun t220 => (if t220 = true then (spec_NetOk.l0 k2 (wrap64 (x3_2 + 1)) a0_0 l0_1) else (some false))) else (none)) else (none)) = some r := by first | (rw [hji16] at H; exact H) | (simp only [hji16] at H ⊢; exact H)
          (try rw [hji16] at A11)
          (try rw [hji16] at A13)
          have hji16w : (IntKind.i64.wrap (x3_2 - 1)) = ji16 := (i64_w _).trans hji16
          obtain ⟨c17, H⟩ := ig_ H
          have c17b0 := decide_eq_true c17
          clear c17
          obtain ⟨c18, H⟩ := ig_ H
          have c18b0 := decide_eq_true c18
          clear c18
          replace H := Option.bind_eq_some_iff.mp H
          obtain ⟨t220, A190, H⟩ := H
          (try dsimp only at H)
          have A19 := am A190
          clear A190
          by_cases c20 : t220 = true
          ·subst c20
           rw [if_pos rfl] at H
           have H' := am H
           clear H
           obtain ⟨hcz21_0, hcz21_1, hfz21_0, hfz21_1⟩ := c2 BK213
           have p215 : 0 ≤ (x3_2 : Int) := oa
           have q215 : x3_2 < (l0_1.length : Int) := oa
           obtain ⟨ad215, e215, hx215_0, hx215_1⟩ := at_T73 HR0_1.out x3_2 p215 q215
           cases e215
           replace hx215_0 := (HB.out.cell (World.block_lt_of_cell? w _ hx215_0)).trans hx215_0
           replace hx215_1 := (HB.out.cell (World.block_lt_of_cell? w _ hx215_1)).trans hx215_1
           replace p215 := eq_true p215
           replace q215 := eq_true q215
           try go_wp2_with (first | ((with_reducible refine gate_dst (N := 4) rfl ?_); refine be_ 4 #[.int .i64 0, .int .i64 0] 73 ?_; intro gb216 hg w22 hbox hb; have BK216 := am hbox; have GW216 := am (ge_ hg HB); have GE216 := am (ge_ hg HB); replace HB := bs HB hb; obtain ⟨NB213_216, NB216_213⟩ := nb_ hg BK213; replace BK213 := bb BK213 hb; clear hb hbox hg; obtain ⟨hnb23, hnc23⟩ := n2 NB216_213 NB213_216; obtain ⟨hcz24_0, hcz24_1, hfz24_0, hfz24_1⟩ := c2 BK216))
           have n0_ : Aside0 (((w22.setCell ⟨gb216, 0, none⟩ (.int .i64 ((rd_T73 l0_1 x3_2).f0))).setCell ⟨gb216, 1, none⟩ (.int .i64 ((rd_T73 l0_1 x3_2).f1))).heap[gb213]? = some (.cells #[.int .i64 a0_0, .slice (some ad215) l0_1.length c0_1] 34 (0, 0))) := ⟨bkn BK213⟩
           have n1_ : Aside0 (((w22.setCell ⟨gb216, 0, none⟩ (.int .i64 ((rd_T73 l0_1 x3_2).f0))).setCell ⟨gb216, 1, none⟩ (.int .i64 ((rd_T73 l0_1 x3_2).f1))).heap[gb216]? = some (.cells #[.int .i64 ((rd_T73 l0_1 x3_2).f0), .int .i64 ((rd_T73 l0_1 x3_2).f1)] 73 (0, 0))) := ⟨by (with_reducible repeat (first | refine blk_drewN ?_ _ | refine blk_drew ?_ | refine blk_alloc ?_ _)); refine blk_put (cs := #[.int .i64 ((rd_T73 l0_1 x3_2).f0), .int .i64 0]) ?_ 1 _ rfl; (with_reducible repeat (first | refine blk_drewN ?_ _ | refine blk_drew ?_ | refine blk_alloc ?_ _)); refine blk_put (cs := #[.int .i64 0, .int .i64 0]) ?_ 0 _ rfl; (with_reducible repeat (first | refine blk_drewN ?_ _ | refine blk_drew ?_ | refine blk_alloc ?_ _)); exact BK216.out⟩
           have n2_ : Aside0 (Below w.heap.size w ((w22.setCell ⟨gb216, 0, none⟩ (.int .i64 ((rd_T73 l0_1 x3_2).f0))).setCell ⟨gb216, 1, none⟩ (.int .i64 ((rd_T73 l0_1 x3_2).f1)))) := ⟨bn HB⟩
           (try clear BK213)
           (try clear BK216)
           (try clear HB)
           generalize ((w22.setCell ⟨gb216, 0, none⟩ (.int .i64 ((rd_T73 l0_1 x3_2).f0))).setCell ⟨gb216, 1, none⟩ (.int .i64 ((rd_T73 l0_1 x3_2).f1))) = w25 at n0_ n1_ n2_ ⊢
           have BK213 := n0_
           have BK216 := n1_
           have HB := n2_
           clear n0_ n1_ n2_
           replace BK213 := am (blk_drew BK213.out)
           replace BK216 := am (blk_drew BK216.out)
           replace HB := am (below_drew1 HB.out)
           have p219 : 0 ≤ ((ji16) : Int) := oa
           have q219 : (ji16) < (l0_1.length : Int) := oa
           obtain ⟨ad219, e219, hx219_0, hx219_1⟩ := at_T73 HR0_1.out (ji16) p219 q219
           have hw219_1 := hx219_1
           have hw219_0 := hx219_0
           obtain rfl : ad215 = ad219 := (by injection e219)
           replace hx219_0 := (HB.out.cell (World.block_lt_of_cell? w _ hx219_0)).trans hx219_0
           replace hx219_1 := (HB.out.cell (World.block_lt_of_cell? w _ hx219_1)).trans hx219_1
           replace p219 := eq_true p219
           replace q219 := eq_true q219
           refine start_ (n := 34) (S := fun w' => w'.cell? ⟨gb216, 0, none⟩ = some (.int .i64 ((rd_T73 l0_1 x3_2).f0)) ∧ w'.cell? ⟨gb216, 1, none⟩ = some (.int .i64 ((rd_T73 l0_1 x3_2).f1)) ∧ w'.cell? ⟨gb213, 0, none⟩ = some (.int .i64 a0_0) ∧ w'.cell? ⟨gb213, 1, none⟩ = some (.slice (some ad215) l0_1.length c0_1) ∧ w'.cell? (ad215.add (((ji16)).toNat * 2)) = some (.int .i64 ((rd_T73 l0_1 (ji16)).f0)) ∧ w'.cell? ⟨(ad215.add (((ji16)).toNat * 2)).block, (ad215.add (((ji16)).toNat * 2)).off + 1, none⟩ = some (.int .i64 ((rd_T73 l0_1 (ji16)).f1))) (ds := []) #[false, false, false, false, false, false, false, false, false, false, false, false, false, false, false, false, false, false, false, false, false, false, false, false, false, false, false, false, false, false, false, false, false, false] (by kernel_rfl) rfl rfl ⟨(bc BK216 0), (bc BK216 1), (bc BK213 0), (bc BK213 1), ((HB.out.cell (World.block_lt_of_cell? w _ hw219_0)).trans hw219_0), ((HB.out.cell (World.block_lt_of_cell? w _ hw219_1)).trans hw219_1)⟩ (fun hHeld => ?_); refine with_tabW spec_NetOk.tab7 spec_NetOk.bits7 (fun HT_ HW_ => ?_)
           generalize w25.drew = w26 at BK213 BK216 HB hx219_0 hx219_1 hHeld ⊢
           refine pz_ 0 (some 27) HT_ ?_
           refine pz_ 2 (some 29) HT_ ?_
           refine tz_ 1 (some 28) HT_ HW_ hHeld ?_
           refine tz_ 3 (some 30) HT_ HW_ hHeld ?_
           refine pz_ 4 (some 31) HT_ ?_
           refine one_ (i := 5) (N := some 32) #[true, true, true, true, true, true, false, false, false, false, false, false, false, false, false, false, false, false, false, false, false, false, false, false, false, false, false, false, false, false, false, false, false, false] rfl rfl (one_of HT_.out (by kernel_rfl)) (by decide) (fun K hK => ?_)
           refine gg_ Try.func118 #[.int .i64 ((rd_T73 l0_1 x3_2).f0), .int .i64 0, .int .i64 (wrap64 (a0_0 - 1))] ?_
           with_reducible refine (spec_l6In.calls ((rd_T73 l0_1 x3_2).f0) 0 (wrap64 (a0_0 - 1)) true _ A11.out).mono ?_
           rintro e w' ⟨rfl, ⟨nd, rfl⟩⟩
           refine ⟨_, rfl, ?_⟩
           refine hK.out _ _ ⟨(bc BK216 0), (bc BK216 1), (bc BK213 0), (bc BK213 1), ((HB.out.cell (World.block_lt_of_cell? w _ hw219_0)).trans hw219_0), ((HB.out.cell (World.block_lt_of_cell? w _ hw219_1)).trans hw219_1)⟩ (fun hHeld => ?_)
           clear hK K
           refine nz_ 32 ?_
           refine pz_ 6 (some 33) HT_ ?_
           refine pz_ 7 (some 34) HT_ ?_
           refine pz_ 8 (some 35) HT_ ?_
           refine pz_ 10 (some 37) HT_ ?_
           refine pz_ 13 (some 40) HT_ ?_
           refine tz_ 9 (some 36) HT_ HW_ hHeld ?_
           refine tz_ 11 (some 38) HT_ HW_ hHeld ?_
           refine pz_ 12 (some 39) HT_ ?_
           refine tz_ 14 (some 41) HT_ HW_ hHeld ?_
           refine pz_ 15 (some 42) HT_ ?_
           refine one_ (i := 16) (N := some 43) #[true, true, true, true, true, true, true, true, true, true, true, true, true, true, true, true, true, false, false, false, false, false, false, false, false, false, false, false, false, false, false, false, false, false] rfl rfl (one_of HT_.out (by kernel_rfl)) (by decide) (fun K hK => ?_)
           refine gg_ Try.func118 #[.int .i64 ((rd_T73 l0_1 x3_2).f1), .int .i64 (wrap64 (((rd_T73 l0_1 x3_2).f0) + 1)), .int .i64 (wrap64 (a0_0 - 1))] ?_
           with_reducible refine (spec_l6In.calls ((rd_T73 l0_1 x3_2).f1) (wrap64 (((rd_T73 l0_1 x3_2).f0) + 1)) (wrap64 (a0_0 - 1)) true _ A13.out).mono ?_
           rintro e w' ⟨rfl, ⟨nd, rfl⟩⟩
           refine ⟨_, rfl, ?_⟩
           refine hK.out _ _ ⟨(bc BK216 0), (bc BK216 1), (bc BK213 0), (bc BK213 1), ((HB.out.cell (World.block_lt_of_cell? w _ hw219_0)).trans hw219_0), ((HB.out.cell (World.block_lt_of_cell? w _ hw219_1)).trans hw219_1)⟩ (fun hHeld => ?_)
           clear hK K
           refine nz_ 43 ?_
           refine pz_ 17 (some 44) HT_ ?_
           refine pz_ 18 (some 45) HT_ ?_
           refine pz_ 19 (some 46) HT_ ?_
           refine pz_ 20 (some 47) HT_ ?_
           refine pz_ 21 (some 48) HT_ ?_
           refine pz_ 22 (some 49) HT_ ?_
           refine pz_ 23 (some 50) HT_ ?_
           refine pz_ 25 (some 52) HT_ ?_
           refine pz_ 26 (some 53) HT_ ?_
           refine tz_ 24 (some 51) HT_ HW_ hHeld ?_
           refine pz_ 27 (some 54) HT_ ?_
           refine tz_ 28 (some 55) HT_ HW_ hHeld ?_
           refine tz_ 29 (some 56) HT_ HW_ hHeld ?_
           refine one_ (i := 30) (N := some 57) #[true, true, true, true, true, true, true, true, true, true, true, true, true, true, true, true, true, true, true, true, true, true, true, true, true, true, true, true, true, true, true, false, false, false] rfl rfl (one_of HT_.out (by kernel_rfl)) (by decide) (fun K hK => ?_)
           refine goes_ Try.func119 (by kernel_rfl) rfl #[.agg #[.int .i64 ((rd_T73 l0_1 (ji16)).f0), .int .i64 ((rd_T73 l0_1 (ji16)).f1)], .agg #[.int .i64 ((rd_T73 l0_1 x3_2).f0), .int .i64 ((rd_T73 l0_1 x3_2).f1)]] (by rfl) rfl rfl (by (try simp only [List.map_toArray, List.map_cons, List.map_nil]); first | done | (simp only [hji16]; rfl) | rfl | (simp only [List.length_drop, List.length_take]; rfl)) ?_
           with_reducible refine (spec_l1Less.calls ((rd_T73 l0_1 (ji16)).f0) ((rd_T73 l0_1 (ji16)).f1) ((rd_T73 l0_1 x3_2).f0) ((rd_T73 l0_1 x3_2).f1) true _ A19.out).mono ?_
           rintro e w27 ⟨rfl, hb⟩
           refine ⟨_, rfl, ?_⟩
           replace BK213 := bb BK213 hb
           replace BK216 := bb BK216 hb
           replace HB := bs HB hb
           (try clear hb)
           (try clear hb2)
           (try clear hk)
           (try clear hi)
           refine hK.out _ _ ⟨(bc BK216 0), (bc BK216 1), (bc BK213 0), (bc BK213 1), ((HB.out.cell (World.block_lt_of_cell? w _ hw219_0)).trans hw219_0), ((HB.out.cell (World.block_lt_of_cell? w _ hw219_1)).trans hw219_1)⟩ (fun hHeld => ?_)
           clear hK K
           refine nz_ 57 ?_
           refine pz_ 31 (some 58) HT_ ?_
           refine pz_ 32 (some 59) HT_ ?_
           refine pz_ 33 (some 60) HT_ ?_
           refine done_ (done_of HT_.out (by kernel_rfl)) ?_
           try go_wp2
           go_roundg k2
           case measure => have := HJ1.out; have := HK2.out; omega
           case rel => exact ⟨(wrap64 (x3_2 + 1)), (by first | rfl | (simp; done) | (simp [*]; done)), H', ⟨by have := HJ1.out; have := HK2.out; omega⟩, ⟨bkn BK213⟩, ⟨bn HB⟩⟩
          ·replace c20 := Bool.eq_false_iff.mpr c20
           subst c20
           rw [if_neg (show ¬ (false = true) by decide)] at H
           obtain rfl := Option.some.inj H
           obtain ⟨hcz28_0, hcz28_1, hfz28_0, hfz28_1⟩ := c2 BK213
           have p215 : 0 ≤ (x3_2 : Int) := oa
           have q215 : x3_2 < (l0_1.length : Int) := oa
           obtain ⟨ad215, e215, hx215_0, hx215_1⟩ := at_T73 HR0_1.out x3_2 p215 q215
           cases e215
           replace hx215_0 := (HB.out.cell (World.block_lt_of_cell? w _ hx215_0)).trans hx215_0
           replace hx215_1 := (HB.out.cell (World.block_lt_of_cell? w _ hx215_1)).trans hx215_1
           replace p215 := eq_true p215
           replace q215 := eq_true q215
           try go_wp2_with (first | ((with_reducible refine gate_dst (N := 4) rfl ?_); refine be_ 4 #[.int .i64 0, .int .i64 0] 73 ?_; intro gb216 hg w29 hbox hb; have BK216 := am hbox; have GW216 := am (ge_ hg HB); have GE216 := am (ge_ hg HB); replace HB := bs HB hb; obtain ⟨NB213_216, NB216_213⟩ := nb_ hg BK213; replace BK213 := bb BK213 hb; clear hb hbox hg; obtain ⟨hnb30, hnc30⟩ := n2 NB216_213 NB213_216; obtain ⟨hcz31_0, hcz31_1, hfz31_0, hfz31_1⟩ := c2 BK216))
           have n0_ : Aside0 (((w29.setCell ⟨gb216, 0, none⟩ (.int .i64 ((rd_T73 l0_1 x3_2).f0))).setCell ⟨gb216, 1, none⟩ (.int .i64 ((rd_T73 l0_1 x3_2).f1))).heap[gb213]? = some (.cells #[.int .i64 a0_0, .slice (some ad215) l0_1.length c0_1] 34 (0, 0))) := ⟨bkn BK213⟩
           have n1_ : Aside0 (((w29.setCell ⟨gb216, 0, none⟩ (.int .i64 ((rd_T73 l0_1 x3_2).f0))).setCell ⟨gb216, 1, none⟩ (.int .i64 ((rd_T73 l0_1 x3_2).f1))).heap[gb216]? = some (.cells #[.int .i64 ((rd_T73 l0_1 x3_2).f0), .int .i64 ((rd_T73 l0_1 x3_2).f1)] 73 (0, 0))) := ⟨by (with_reducible repeat (first | refine blk_drewN ?_ _ | refine blk_drew ?_ | refine blk_alloc ?_ _)); refine blk_put (cs := #[.int .i64 ((rd_T73 l0_1 x3_2).f0), .int .i64 0]) ?_ 1 _ rfl; (with_reducible repeat (first | refine blk_drewN ?_ _ | refine blk_drew ?_ | refine blk_alloc ?_ _)); refine blk_put (cs := #[.int .i64 0, .int .i64 0]) ?_ 0 _ rfl; (with_reducible repeat (first | refine blk_drewN ?_ _ | refine blk_drew ?_ | refine blk_alloc ?_ _)); exact BK216.out⟩
           have n2_ : Aside0 (Below w.heap.size w ((w29.setCell ⟨gb216, 0, none⟩ (.int .i64 ((rd_T73 l0_1 x3_2).f0))).setCell ⟨gb216, 1, none⟩ (.int .i64 ((rd_T73 l0_1 x3_2).f1)))) := ⟨bn HB⟩
           (try clear BK213)
           (try clear BK216)
           (try clear HB)
           generalize ((w29.setCell ⟨gb216, 0, none⟩ (.int .i64 ((rd_T73 l0_1 x3_2).f0))).setCell ⟨gb216, 1, none⟩ (.int .i64 ((rd_T73 l0_1 x3_2).f1))) = w32 at n0_ n1_ n2_ ⊢
           have BK213 := n0_
           have BK216 := n1_
           have HB := n2_
           clear n0_ n1_ n2_
           replace BK213 := am (blk_drew BK213.out)
           replace BK216 := am (blk_drew BK216.out)
           replace HB := am (below_drew1 HB.out)
           have p219 : 0 ≤ ((ji16) : Int) := oa
           have q219 : (ji16) < (l0_1.length : Int) := oa
           obtain ⟨ad219, e219, hx219_0, hx219_1⟩ := at_T73 HR0_1.out (ji16) p219 q219
           have hw219_1 := hx219_1
           have hw219_0 := hx219_0
           obtain rfl : ad215 = ad219 := (by injection e219)
           replace hx219_0 := (HB.out.cell (World.block_lt_of_cell? w _ hx219_0)).trans hx219_0
           replace hx219_1 := (HB.out.cell (World.block_lt_of_cell? w _ hx219_1)).trans hx219_1
           replace p219 := eq_true p219
           replace q219 := eq_true q219
           refine start_ (n := 34) (S := fun w' => w'.cell? ⟨gb216, 0, none⟩ = some (.int .i64 ((rd_T73 l0_1 x3_2).f0)) ∧ w'.cell? ⟨gb216, 1, none⟩ = some (.int .i64 ((rd_T73 l0_1 x3_2).f1)) ∧ w'.cell? ⟨gb213, 0, none⟩ = some (.int .i64 a0_0) ∧ w'.cell? ⟨gb213, 1, none⟩ = some (.slice (some ad215) l0_1.length c0_1) ∧ w'.cell? (ad215.add (((ji16)).toNat * 2)) = some (.int .i64 ((rd_T73 l0_1 (ji16)).f0)) ∧ w'.cell? ⟨(ad215.add (((ji16)).toNat * 2)).block, (ad215.add (((ji16)).toNat * 2)).off + 1, none⟩ = some (.int .i64 ((rd_T73 l0_1 (ji16)).f1))) (ds := []) #[false, false, false, false, false, false, false, false, false, false, false, false, false, false, false, false, false, false, false, false, false, false, false, false, false, false, false, false, false, false, false, false, false, false] (by kernel_rfl) rfl rfl ⟨(bc BK216 0), (bc BK216 1), (bc BK213 0), (bc BK213 1), ((HB.out.cell (World.block_lt_of_cell? w _ hw219_0)).trans hw219_0), ((HB.out.cell (World.block_lt_of_cell? w _ hw219_1)).trans hw219_1)⟩ (fun hHeld => ?_); refine with_tabW spec_NetOk.tab7 spec_NetOk.bits7 (fun HT_ HW_ => ?_)
           generalize w32.drew = w33 at BK213 BK216 HB hx219_0 hx219_1 hHeld ⊢
           refine pz_ 0 (some 27) HT_ ?_
           refine pz_ 2 (some 29) HT_ ?_
           refine tz_ 1 (some 28) HT_ HW_ hHeld ?_
           refine tz_ 3 (some 30) HT_ HW_ hHeld ?_
           refine pz_ 4 (some 31) HT_ ?_
           refine one_ (i := 5) (N := some 32) #[true, true, true, true, true, true, false, false, false, false, false, false, false, false, false, false, false, false, false, false, false, false, false, false, false, false, false, false, false, false, false, false, false, false] rfl rfl (one_of HT_.out (by kernel_rfl)) (by decide) (fun K hK => ?_)
           refine gg_ Try.func118 #[.int .i64 ((rd_T73 l0_1 x3_2).f0), .int .i64 0, .int .i64 (wrap64 (a0_0 - 1))] ?_
           with_reducible refine (spec_l6In.calls ((rd_T73 l0_1 x3_2).f0) 0 (wrap64 (a0_0 - 1)) true _ A11.out).mono ?_
           rintro e w' ⟨rfl, ⟨nd, rfl⟩⟩
           refine ⟨_, rfl, ?_⟩
           refine hK.out _ _ ⟨(bc BK216 0), (bc BK216 1), (bc BK213 0), (bc BK213 1), ((HB.out.cell (World.block_lt_of_cell? w _ hw219_0)).trans hw219_0), ((HB.out.cell (World.block_lt_of_cell? w _ hw219_1)).trans hw219_1)⟩ (fun hHeld => ?_)
           clear hK K
           refine nz_ 32 ?_
           refine pz_ 6 (some 33) HT_ ?_
           refine pz_ 7 (some 34) HT_ ?_
           refine pz_ 8 (some 35) HT_ ?_
           refine pz_ 10 (some 37) HT_ ?_
           refine pz_ 13 (some 40) HT_ ?_
           refine tz_ 9 (some 36) HT_ HW_ hHeld ?_
           refine tz_ 11 (some 38) HT_ HW_ hHeld ?_
           refine pz_ 12 (some 39) HT_ ?_
           refine tz_ 14 (some 41) HT_ HW_ hHeld ?_
           refine pz_ 15 (some 42) HT_ ?_
           refine one_ (i := 16) (N := some 43) #[true, true, true, true, true, true, true, true, true, true, true, true, true, true, true, true, true, false, false, false, false, false, false, false, false, false, false, false, false, false, false, false, false, false] rfl rfl (one_of HT_.out (by kernel_rfl)) (by decide) (fun K hK => ?_)
           refine gg_ Try.func118 #[.int .i64 ((rd_T73 l0_1 x3_2).f1), .int .i64 (wrap64 (((rd_T73 l0_1 x3_2).f0) + 1)), .int .i64 (wrap64 (a0_0 - 1))] ?_
           with_reducible refine (spec_l6In.calls ((rd_T73 l0_1 x3_2).f1) (wrap64 (((rd_T73 l0_1 x3_2).f0) + 1)) (wrap64 (a0_0 - 1)) true _ A13.out).mono ?_
           rintro e w' ⟨rfl, ⟨nd, rfl⟩⟩
           refine ⟨_, rfl, ?_⟩
           refine hK.out _ _ ⟨(bc BK216 0), (bc BK216 1), (bc BK213 0), (bc BK213 1), ((HB.out.cell (World.block_lt_of_cell? w _ hw219_0)).trans hw219_0), ((HB.out.cell (World.block_lt_of_cell? w _ hw219_1)).trans hw219_1)⟩ (fun hHeld => ?_)
           clear hK K
           refine nz_ 43 ?_
           refine pz_ 17 (some 44) HT_ ?_
           refine pz_ 18 (some 45) HT_ ?_
           refine pz_ 19 (some 46) HT_ ?_
           refine pz_ 20 (some 47) HT_ ?_
           refine pz_ 21 (some 48) HT_ ?_
           refine pz_ 22 (some 49) HT_ ?_
           refine pz_ 23 (some 50) HT_ ?_
           refine pz_ 25 (some 52) HT_ ?_
           refine pz_ 26 (some 53) HT_ ?_
           refine tz_ 24 (some 51) HT_ HW_ hHeld ?_
           refine pz_ 27 (some 54) HT_ ?_
           refine tz_ 28 (some 55) HT_ HW_ hHeld ?_
           refine tz_ 29 (some 56) HT_ HW_ hHeld ?_
           refine one_ (i := 30) (N := some 57) #[true, true, true, true, true, true, true, true, true, true, true, true, true, true, true, true, true, true, true, true, true, true, true, true, true, true, true, true, true, true, true, false, false, false] rfl rfl (one_of HT_.out (by kernel_rfl)) (by decide) (fun K hK => ?_)
           refine goes_ Try.func119 (by kernel_rfl) rfl #[.agg #[.int .i64 ((rd_T73 l0_1 (ji16)).f0), .int .i64 ((rd_T73 l0_1 (ji16)).f1)], .agg #[.int .i64 ((rd_T73 l0_1 x3_2).f0), .int .i64 ((rd_T73 l0_1 x3_2).f1)]] (by rfl) rfl rfl (by (try simp only [List.map_toArray, List.map_cons, List.map_nil]); first | done | (simp only [hji16]; rfl) | rfl | (simp only [List.length_drop, List.length_take]; rfl)) ?_
           with_reducible refine (spec_l1Less.calls ((rd_T73 l0_1 (ji16)).f0) ((rd_T73 l0_1 (ji16)).f1) ((rd_T73 l0_1 x3_2).f0) ((rd_T73 l0_1 x3_2).f1) false _ A19.out).mono ?_
           rintro e w34 ⟨rfl, hb⟩
           refine ⟨_, rfl, ?_⟩
           replace BK213 := bb BK213 hb
           replace BK216 := bb BK216 hb
           replace HB := bs HB hb
           (try clear hb)
           (try clear hb2)
           (try clear hk)
           (try clear hi)
           refine hK.out _ _ ⟨(bc BK216 0), (bc BK216 1), (bc BK213 0), (bc BK213 1), ((HB.out.cell (World.block_lt_of_cell? w _ hw219_0)).trans hw219_0), ((HB.out.cell (World.block_lt_of_cell? w _ hw219_1)).trans hw219_1)⟩ (fun hHeld => ?_)
           clear hK K
           refine nz_ 57 ?_
           refine pz_ 31 (some 58) HT_ ?_
           refine pz_ 32 (some 59) HT_ ?_
           refine pz_ 33 (some 60) HT_ ?_
           refine done_ (done_of HT_.out (by kernel_rfl)) ?_
           try go_wp2
           go_ret
           exact ⟨by first | rfl | (simp [errW_none, errW_some] <;> rfl) | (simp only [← hji16]; first | rfl | (simp [errW_none, errW_some] <;> rfl)) | (simp [*, errW_none, errW_some] <;> rfl), bn HB⟩
         ·rw [if_neg c15] at H
          have c15b0 := decide_eq_false c15
          clear c15
          have H' := am H
          clear H
          obtain ⟨hcz35_0, hcz35_1, hfz35_0, hfz35_1⟩ := c2 BK213
          have p215 : 0 ≤ (x3_2 : Int) := oa
          have q215 : x3_2 < (l0_1.length : Int) := oa
          obtain ⟨ad215, e215, hx215_0, hx215_1⟩ := at_T73 HR0_1.out x3_2 p215 q215
          cases e215
          replace hx215_0 := (HB.out.cell (World.block_lt_of_cell? w _ hx215_0)).trans hx215_0
          replace hx215_1 := (HB.out.cell (World.block_lt_of_cell? w _ hx215_1)).trans hx215_1
          replace p215 := eq_true p215
          replace q215 := eq_true q215
          try go_wp2_with (first | ((with_reducible refine gate_dst (N := 4) rfl ?_); refine be_ 4 #[.int .i64 0, .int .i64 0] 73 ?_; intro gb216 hg w36 hbox hb; have BK216 := am hbox; have GW216 := am (ge_ hg HB); have GE216 := am (ge_ hg HB); replace HB := bs HB hb; obtain ⟨NB213_216, NB216_213⟩ := nb_ hg BK213; replace BK213 := bb BK213 hb; clear hb hbox hg; obtain ⟨hnb37, hnc37⟩ := n2 NB216_213 NB213_216; obtain ⟨hcz38_0, hcz38_1, hfz38_0, hfz38_1⟩ := c2 BK216))
          have n0_ : Aside0 (((w36.setCell ⟨gb216, 0, none⟩ (.int .i64 ((rd_T73 l0_1 x3_2).f0))).setCell ⟨gb216, 1, none⟩ (.int .i64 ((rd_T73 l0_1 x3_2).f1))).heap[gb213]? = some (.cells #[.int .i64 a0_0, .slice (some ad215) l0_1.length c0_1] 34 (0, 0))) := ⟨bkn BK213⟩
          have n1_ : Aside0 (((w36.setCell ⟨gb216, 0, none⟩ (.int .i64 ((rd_T73 l0_1 x3_2).f0))).setCell ⟨gb216, 1, none⟩ (.int .i64 ((rd_T73 l0_1 x3_2).f1))).heap[gb216]? = some (.cells #[.int .i64 ((rd_T73 l0_1 x3_2).f0), .int .i64 ((rd_T73 l0_1 x3_2).f1)] 73 (0, 0))) := ⟨by (with_reducible repeat (first | refine blk_drewN ?_ _ | refine blk_drew ?_ | refine blk_alloc ?_ _)); refine blk_put (cs := #[.int .i64 ((rd_T73 l0_1 x3_2).f0), .int .i64 0]) ?_ 1 _ rfl; (with_reducible repeat (first | refine blk_drewN ?_ _ | refine blk_drew ?_ | refine blk_alloc ?_ _)); refine blk_put (cs := #[.int .i64 0, .int .i64 0]) ?_ 0 _ rfl; (with_reducible repeat (first | refine blk_drewN ?_ _ | refine blk_drew ?_ | refine blk_alloc ?_ _)); exact BK216.out⟩
          have n2_ : Aside0 (Below w.heap.size w ((w36.setCell ⟨gb216, 0, none⟩ (.int .i64 ((rd_T73 l0_1 x3_2).f0))).setCell ⟨gb216, 1, none⟩ (.int .i64 ((rd_T73 l0_1 x3_2).f1)))) := ⟨bn HB⟩
          (try clear BK213)
          (try clear BK216)
          (try clear HB)
          generalize ((w36.setCell ⟨gb216, 0, none⟩ (.int .i64 ((rd_T73 l0_1 x3_2).f0))).setCell ⟨gb216, 1, none⟩ (.int .i64 ((rd_T73 l0_1 x3_2).f1))) = w39 at n0_ n1_ n2_ ⊢
          have BK213 := n0_
          have BK216 := n1_
          have HB := n2_
          clear n0_ n1_ n2_
          replace BK213 := am (blk_drew BK213.out)
          replace BK216 := am (blk_drew BK216.out)
          replace HB := am (below_drew1 HB.out)
          refine start_ (n := 34) (S := fun w' => w'.cell? ⟨gb216, 0, none⟩ = some (.int .i64 ((rd_T73 l0_1 x3_2).f0)) ∧ w'.cell? ⟨gb216, 1, none⟩ = some (.int .i64 ((rd_T73 l0_1 x3_2).f1)) ∧ w'.cell? ⟨gb213, 0, none⟩ = some (.int .i64 a0_0) ∧ w'.cell? ⟨gb213, 1, none⟩ = some (.slice (some ad215) l0_1.length c0_1)) (ds := []) #[false, false, false, false, false, false, false, false, false, false, false, false, false, false, false, false, false, false, false, false, false, false, false, false, false, false, false, false, false, false, false, false, false, false] (by kernel_rfl) rfl rfl ⟨(bc BK216 0), (bc BK216 1), (bc BK213 0), (bc BK213 1)⟩ (fun hHeld => ?_); refine with_tabW spec_NetOk.tab7 spec_NetOk.bits7 (fun HT_ HW_ => ?_)
          generalize w39.drew = w40 at BK213 BK216 HB hHeld ⊢
          refine pz_ 0 (some 27) HT_ ?_
          refine pz_ 2 (some 29) HT_ ?_
          refine tz_ 1 (some 28) HT_ HW_ hHeld ?_
          refine tz_ 3 (some 30) HT_ HW_ hHeld ?_
          refine pz_ 4 (some 31) HT_ ?_
          refine one_ (i := 5) (N := some 32) #[true, true, true, true, true, true, false, false, false, false, false, false, false, false, false, false, false, false, false, false, false, false, false, false, false, false, false, false, false, false, false, false, false, false] rfl rfl (one_of HT_.out (by kernel_rfl)) (by decide) (fun K hK => ?_)
          refine gg_ Try.func118 #[.int .i64 ((rd_T73 l0_1 x3_2).f0), .int .i64 0, .int .i64 (wrap64 (a0_0 - 1))] ?_
          with_reducible refine (spec_l6In.calls ((rd_T73 l0_1 x3_2).f0) 0 (wrap64 (a0_0 - 1)) true _ A11.out).mono ?_
          rintro e w' ⟨rfl, ⟨nd, rfl⟩⟩
          refine ⟨_, rfl, ?_⟩
          refine hK.out _ _ ⟨(bc BK216 0), (bc BK216 1), (bc BK213 0), (bc BK213 1)⟩ (fun hHeld => ?_)
          clear hK K
          refine nz_ 32 ?_
          refine pz_ 6 (some 33) HT_ ?_
          refine pz_ 7 (some 34) HT_ ?_
          refine pz_ 8 (some 35) HT_ ?_
          refine pz_ 10 (some 37) HT_ ?_
          refine pz_ 13 (some 40) HT_ ?_
          refine tz_ 9 (some 36) HT_ HW_ hHeld ?_
          refine tz_ 11 (some 38) HT_ HW_ hHeld ?_
          refine pz_ 12 (some 39) HT_ ?_
          refine tz_ 14 (some 41) HT_ HW_ hHeld ?_
          refine pz_ 15 (some 42) HT_ ?_
          refine one_ (i := 16) (N := some 43) #[true, true, true, true, true, true, true, true, true, true, true, true, true, true, true, true, true, false, false, false, false, false, false, false, false, false, false, false, false, false, false, false, false, false] rfl rfl (one_of HT_.out (by kernel_rfl)) (by decide) (fun K hK => ?_)
          refine gg_ Try.func118 #[.int .i64 ((rd_T73 l0_1 x3_2).f1), .int .i64 (wrap64 (((rd_T73 l0_1 x3_2).f0) + 1)), .int .i64 (wrap64 (a0_0 - 1))] ?_
          with_reducible refine (spec_l6In.calls ((rd_T73 l0_1 x3_2).f1) (wrap64 (((rd_T73 l0_1 x3_2).f0) + 1)) (wrap64 (a0_0 - 1)) true _ A13.out).mono ?_
          rintro e w' ⟨rfl, ⟨nd, rfl⟩⟩
          refine ⟨_, rfl, ?_⟩
          refine hK.out _ _ ⟨(bc BK216 0), (bc BK216 1), (bc BK213 0), (bc BK213 1)⟩ (fun hHeld => ?_)
          clear hK K
          refine nz_ 43 ?_
          refine pz_ 17 (some 44) HT_ ?_
          refine pz_ 18 (some 45) HT_ ?_
          refine pz_ 19 (some 46) HT_ ?_
          refine pz_ 20 (some 47) HT_ ?_
          refine pz_ 21 (some 48) HT_ ?_
          refine pz_ 22 (some 49) HT_ ?_
          refine pu_ 23 (some 50) HT_ ?_
          refine pu_ 24 (some 51) HT_ ?_
          refine pu_ 25 (some 52) HT_ ?_
          refine pu_ 26 (some 53) HT_ ?_
          refine pu_ 27 (some 54) HT_ ?_
          refine pu_ 28 (some 55) HT_ ?_
          refine pu_ 29 (some 56) HT_ ?_
          refine pu_ 30 (some 57) HT_ ?_
          refine pu_ 31 (some 58) HT_ ?_
          refine pz_ 32 (some 59) HT_ ?_
          refine pz_ 33 (some 60) HT_ ?_
          refine done_ (done_of HT_.out (by kernel_rfl)) ?_
          try go_wp2
          go_roundg k2
          case measure => have := HJ1.out; have := HK2.out; omega
          case rel => exact ⟨(wrap64 (x3_2 + 1)), (by first | rfl | (simp; done) | (simp [*]; done)), H', ⟨by have := HJ1.out; have := HK2.out; omega⟩, ⟨bkn BK213⟩, ⟨bn HB⟩⟩
        ·replace c14 := Bool.eq_false_iff.mpr c14
         subst c14
         rw [if_neg (show ¬ (false = true) by decide)] at H
         obtain rfl := Option.some.inj H
         obtain ⟨hcz41_0, hcz41_1, hfz41_0, hfz41_1⟩ := c2 BK213
         have p215 : 0 ≤ (x3_2 : Int) := oa
         have q215 : x3_2 < (l0_1.length : Int) := oa
         obtain ⟨ad215, e215, hx215_0, hx215_1⟩ := at_T73 HR0_1.out x3_2 p215 q215
         cases e215
         replace hx215_0 := (HB.out.cell (World.block_lt_of_cell? w _ hx215_0)).trans hx215_0
         replace hx215_1 := (HB.out.cell (World.block_lt_of_cell? w _ hx215_1)).trans hx215_1
         replace p215 := eq_true p215
         replace q215 := eq_true q215
         try go_wp2_with (first | ((with_reducible refine gate_dst (N := 4) rfl ?_); refine be_ 4 #[.int .i64 0, .int .i64 0] 73 ?_; intro gb216 hg w42 hbox hb; have BK216 := am hbox; have GW216 := am (ge_ hg HB); have GE216 := am (ge_ hg HB); replace HB := bs HB hb; obtain ⟨NB213_216, NB216_213⟩ := nb_ hg BK213; replace BK213 := bb BK213 hb; clear hb hbox hg; obtain ⟨hnb43, hnc43⟩ := n2 NB216_213 NB213_216; obtain ⟨hcz44_0, hcz44_1, hfz44_0, hfz44_1⟩ := c2 BK216))
         have n0_ : Aside0 (((w42.setCell ⟨gb216, 0, none⟩ (.int .i64 ((rd_T73 l0_1 x3_2).f0))).setCell ⟨gb216, 1, none⟩ (.int .i64 ((rd_T73 l0_1 x3_2).f1))).heap[gb213]? = some (.cells #[.int .i64 a0_0, .slice (some ad215) l0_1.length c0_1] 34 (0, 0))) := ⟨bkn BK213⟩
         have n1_ : Aside0 (((w42.setCell ⟨gb216, 0, none⟩ (.int .i64 ((rd_T73 l0_1 x3_2).f0))).setCell ⟨gb216, 1, none⟩ (.int .i64 ((rd_T73 l0_1 x3_2).f1))).heap[gb216]? = some (.cells #[.int .i64 ((rd_T73 l0_1 x3_2).f0), .int .i64 ((rd_T73 l0_1 x3_2).f1)] 73 (0, 0))) := ⟨by (with_reducible repeat (first | refine blk_drewN ?_ _ | refine blk_drew ?_ | refine blk_alloc ?_ _)); refine blk_put (cs := #[.int .i64 ((rd_T73 l0_1 x3_2).f0), .int .i64 0]) ?_ 1 _ rfl; (with_reducible repeat (first | refine blk_drewN ?_ _ | refine blk_drew ?_ | refine blk_alloc ?_ _)); refine blk_put (cs := #[.int .i64 0, .int .i64 0]) ?_ 0 _ rfl; (with_reducible repeat (first | refine blk_drewN ?_ _ | refine blk_drew ?_ | refine blk_alloc ?_ _)); exact BK216.out⟩
         have n2_ : Aside0 (Below w.heap.size w ((w42.setCell ⟨gb216, 0, none⟩ (.int .i64 ((rd_T73 l0_1 x3_2).f0))).setCell ⟨gb216, 1, none⟩ (.int .i64 ((rd_T73 l0_1 x3_2).f1)))) := ⟨bn HB⟩
         (try clear BK213)
         (try clear BK216)
         (try clear HB)
         generalize ((w42.setCell ⟨gb216, 0, none⟩ (.int .i64 ((rd_T73 l0_1 x3_2).f0))).setCell ⟨gb216, 1, none⟩ (.int .i64 ((rd_T73 l0_1 x3_2).f1))) = w45 at n0_ n1_ n2_ ⊢
         have BK213 := n0_
         have BK216 := n1_
         have HB := n2_
         clear n0_ n1_ n2_
         replace BK213 := am (blk_drew BK213.out)
         replace BK216 := am (blk_drew BK216.out)
         replace HB := am (below_drew1 HB.out)
         refine start_ (n := 34) (S := fun w' => w'.cell? ⟨gb216, 0, none⟩ = some (.int .i64 ((rd_T73 l0_1 x3_2).f0)) ∧ w'.cell? ⟨gb216, 1, none⟩ = some (.int .i64 ((rd_T73 l0_1 x3_2).f1)) ∧ w'.cell? ⟨gb213, 0, none⟩ = some (.int .i64 a0_0) ∧ w'.cell? ⟨gb213, 1, none⟩ = some (.slice (some ad215) l0_1.length c0_1)) (ds := []) #[false, false, false, false, false, false, false, false, false, false, false, false, false, false, false, false, false, false, false, false, false, false, false, false, false, false, false, false, false, false, false, false, false, false] (by kernel_rfl) rfl rfl ⟨(bc BK216 0), (bc BK216 1), (bc BK213 0), (bc BK213 1)⟩ (fun hHeld => ?_); refine with_tabW spec_NetOk.tab7 spec_NetOk.bits7 (fun HT_ HW_ => ?_)
         generalize w45.drew = w46 at BK213 BK216 HB hHeld ⊢
         refine pz_ 0 (some 27) HT_ ?_
         refine pz_ 2 (some 29) HT_ ?_
         refine tz_ 1 (some 28) HT_ HW_ hHeld ?_
         refine tz_ 3 (some 30) HT_ HW_ hHeld ?_
         refine pz_ 4 (some 31) HT_ ?_
         refine one_ (i := 5) (N := some 32) #[true, true, true, true, true, true, false, false, false, false, false, false, false, false, false, false, false, false, false, false, false, false, false, false, false, false, false, false, false, false, false, false, false, false] rfl rfl (one_of HT_.out (by kernel_rfl)) (by decide) (fun K hK => ?_)
         refine gg_ Try.func118 #[.int .i64 ((rd_T73 l0_1 x3_2).f0), .int .i64 0, .int .i64 (wrap64 (a0_0 - 1))] ?_
         with_reducible refine (spec_l6In.calls ((rd_T73 l0_1 x3_2).f0) 0 (wrap64 (a0_0 - 1)) true _ A11.out).mono ?_
         rintro e w' ⟨rfl, ⟨nd, rfl⟩⟩
         refine ⟨_, rfl, ?_⟩
         refine hK.out _ _ ⟨(bc BK216 0), (bc BK216 1), (bc BK213 0), (bc BK213 1)⟩ (fun hHeld => ?_)
         clear hK K
         refine nz_ 32 ?_
         refine pz_ 6 (some 33) HT_ ?_
         refine pz_ 7 (some 34) HT_ ?_
         refine pz_ 8 (some 35) HT_ ?_
         refine pz_ 10 (some 37) HT_ ?_
         refine pz_ 13 (some 40) HT_ ?_
         refine tz_ 9 (some 36) HT_ HW_ hHeld ?_
         refine tz_ 11 (some 38) HT_ HW_ hHeld ?_
         refine pz_ 12 (some 39) HT_ ?_
         refine tz_ 14 (some 41) HT_ HW_ hHeld ?_
         refine pz_ 15 (some 42) HT_ ?_
         refine one_ (i := 16) (N := some 43) #[true, true, true, true, true, true, true, true, true, true, true, true, true, true, true, true, true, false, false, false, false, false, false, false, false, false, false, false, false, false, false, false, false, false] rfl rfl (one_of HT_.out (by kernel_rfl)) (by decide) (fun K hK => ?_)
         refine gg_ Try.func118 #[.int .i64 ((rd_T73 l0_1 x3_2).f1), .int .i64 (wrap64 (((rd_T73 l0_1 x3_2).f0) + 1)), .int .i64 (wrap64 (a0_0 - 1))] ?_
         with_reducible refine (spec_l6In.calls ((rd_T73 l0_1 x3_2).f1) (wrap64 (((rd_T73 l0_1 x3_2).f0) + 1)) (wrap64 (a0_0 - 1)) false _ A13.out).mono ?_
         rintro e w' ⟨rfl, ⟨nd, rfl⟩⟩
         refine ⟨_, rfl, ?_⟩
         refine hK.out _ _ ⟨(bc BK216 0), (bc BK216 1), (bc BK213 0), (bc BK213 1)⟩ (fun hHeld => ?_)
         clear hK K
         refine nz_ 43 ?_
         refine pz_ 17 (some 44) HT_ ?_
         refine pz_ 18 (some 45) HT_ ?_
         refine pz_ 19 (some 46) HT_ ?_
         refine pu_ 20 (some 47) HT_ ?_
         refine pu_ 21 (some 48) HT_ ?_
         refine pu_ 22 (some 49) HT_ ?_
         refine pu_ 23 (some 50) HT_ ?_
         refine pu_ 24 (some 51) HT_ ?_
         refine pu_ 25 (some 52) HT_ ?_
         refine pu_ 26 (some 53) HT_ ?_
         refine pu_ 27 (some 54) HT_ ?_
         refine pu_ 28 (some 55) HT_ ?_
         refine pu_ 29 (some 56) HT_ ?_
         refine pu_ 30 (some 57) HT_ ?_
         refine pu_ 31 (some 58) HT_ ?_
         refine pu_ 32 (some 59) HT_ ?_
         refine pz_ 33 (some 60) HT_ ?_
         refine done_ (done_of HT_.out (by kernel_rfl)) ?_
         try go_wp2
         go_ret
         exact ⟨by first | rfl | (simp [errW_none, errW_some] <;> rfl) | (simp [*, errW_none, errW_some] <;> rfl), bn HB⟩
       ·replace c12 := Bool.eq_false_iff.mpr c12
        subst c12
        rw [if_neg (show ¬ (false = true) by decide)] at H
        obtain rfl := Option.some.inj H
        obtain ⟨hcz47_0, hcz47_1, hfz47_0, hfz47_1⟩ := c2 BK213
        have p215 : 0 ≤ (x3_2 : Int) := oa
        have q215 : x3_2 < (l0_1.length : Int) := oa
        obtain ⟨ad215, e215, hx215_0, hx215_1⟩ := at_T73 HR0_1.out x3_2 p215 q215
        cases e215
        replace hx215_0 := (HB.out.cell (World.block_lt_of_cell? w _ hx215_0)).trans hx215_0
        replace hx215_1 := (HB.out.cell (World.block_lt_of_cell? w _ hx215_1)).trans hx215_1
        replace p215 := eq_true p215
        replace q215 := eq_true q215
        try go_wp2_with (first | ((with_reducible refine gate_dst (N := 4) rfl ?_); refine be_ 4 #[.int .i64 0, .int .i64 0] 73 ?_; intro gb216 hg w48 hbox hb; have BK216 := am hbox; have GW216 := am (ge_ hg HB); have GE216 := am (ge_ hg HB); replace HB := bs HB hb; obtain ⟨NB213_216, NB216_213⟩ := nb_ hg BK213; replace BK213 := bb BK213 hb; clear hb hbox hg; obtain ⟨hnb49, hnc49⟩ := n2 NB216_213 NB213_216; obtain ⟨hcz50_0, hcz50_1, hfz50_0, hfz50_1⟩ := c2 BK216))
        have n0_ : Aside0 (((w48.setCell ⟨gb216, 0, none⟩ (.int .i64 ((rd_T73 l0_1 x3_2).f0))).setCell ⟨gb216, 1, none⟩ (.int .i64 ((rd_T73 l0_1 x3_2).f1))).heap[gb213]? = some (.cells #[.int .i64 a0_0, .slice (some ad215) l0_1.length c0_1] 34 (0, 0))) := ⟨bkn BK213⟩
        have n1_ : Aside0 (((w48.setCell ⟨gb216, 0, none⟩ (.int .i64 ((rd_T73 l0_1 x3_2).f0))).setCell ⟨gb216, 1, none⟩ (.int .i64 ((rd_T73 l0_1 x3_2).f1))).heap[gb216]? = some (.cells #[.int .i64 ((rd_T73 l0_1 x3_2).f0), .int .i64 ((rd_T73 l0_1 x3_2).f1)] 73 (0, 0))) := ⟨by (with_reducible repeat (first | refine blk_drewN ?_ _ | refine blk_drew ?_ | refine blk_alloc ?_ _)); refine blk_put (cs := #[.int .i64 ((rd_T73 l0_1 x3_2).f0), .int .i64 0]) ?_ 1 _ rfl; (with_reducible repeat (first | refine blk_drewN ?_ _ | refine blk_drew ?_ | refine blk_alloc ?_ _)); refine blk_put (cs := #[.int .i64 0, .int .i64 0]) ?_ 0 _ rfl; (with_reducible repeat (first | refine blk_drewN ?_ _ | refine blk_drew ?_ | refine blk_alloc ?_ _)); exact BK216.out⟩
        have n2_ : Aside0 (Below w.heap.size w ((w48.setCell ⟨gb216, 0, none⟩ (.int .i64 ((rd_T73 l0_1 x3_2).f0))).setCell ⟨gb216, 1, none⟩ (.int .i64 ((rd_T73 l0_1 x3_2).f1)))) := ⟨bn HB⟩
        (try clear BK213)
        (try clear BK216)
        (try clear HB)
        generalize ((w48.setCell ⟨gb216, 0, none⟩ (.int .i64 ((rd_T73 l0_1 x3_2).f0))).setCell ⟨gb216, 1, none⟩ (.int .i64 ((rd_T73 l0_1 x3_2).f1))) = w51 at n0_ n1_ n2_ ⊢
        have BK213 := n0_
        have BK216 := n1_
        have HB := n2_
        clear n0_ n1_ n2_
        replace BK213 := am (blk_drew BK213.out)
        replace BK216 := am (blk_drew BK216.out)
        replace HB := am (below_drew1 HB.out)
        refine start_ (n := 34) (S := fun w' => w'.cell? ⟨gb216, 0, none⟩ = some (.int .i64 ((rd_T73 l0_1 x3_2).f0)) ∧ w'.cell? ⟨gb216, 1, none⟩ = some (.int .i64 ((rd_T73 l0_1 x3_2).f1)) ∧ w'.cell? ⟨gb213, 0, none⟩ = some (.int .i64 a0_0) ∧ w'.cell? ⟨gb213, 1, none⟩ = some (.slice (some ad215) l0_1.length c0_1)) (ds := []) #[false, false, false, false, false, false, false, false, false, false, false, false, false, false, false, false, false, false, false, false, false, false, false, false, false, false, false, false, false, false, false, false, false, false] (by kernel_rfl) rfl rfl ⟨(bc BK216 0), (bc BK216 1), (bc BK213 0), (bc BK213 1)⟩ (fun hHeld => ?_); refine with_tabW spec_NetOk.tab7 spec_NetOk.bits7 (fun HT_ HW_ => ?_)
        generalize w51.drew = w52 at BK213 BK216 HB hHeld ⊢
        refine pz_ 0 (some 27) HT_ ?_
        refine pz_ 2 (some 29) HT_ ?_
        refine tz_ 1 (some 28) HT_ HW_ hHeld ?_
        refine tz_ 3 (some 30) HT_ HW_ hHeld ?_
        refine pz_ 4 (some 31) HT_ ?_
        refine one_ (i := 5) (N := some 32) #[true, true, true, true, true, true, false, false, false, false, false, false, false, false, false, false, false, false, false, false, false, false, false, false, false, false, false, false, false, false, false, false, false, false] rfl rfl (one_of HT_.out (by kernel_rfl)) (by decide) (fun K hK => ?_)
        refine gg_ Try.func118 #[.int .i64 ((rd_T73 l0_1 x3_2).f0), .int .i64 0, .int .i64 (wrap64 (a0_0 - 1))] ?_
        with_reducible refine (spec_l6In.calls ((rd_T73 l0_1 x3_2).f0) 0 (wrap64 (a0_0 - 1)) false _ A11.out).mono ?_
        rintro e w' ⟨rfl, ⟨nd, rfl⟩⟩
        refine ⟨_, rfl, ?_⟩
        refine hK.out _ _ ⟨(bc BK216 0), (bc BK216 1), (bc BK213 0), (bc BK213 1)⟩ (fun hHeld => ?_)
        clear hK K
        refine nz_ 32 ?_
        refine pz_ 6 (some 33) HT_ ?_
        refine pz_ 7 (some 34) HT_ ?_
        refine pu_ 8 (some 35) HT_ ?_
        refine pu_ 9 (some 36) HT_ ?_
        refine pu_ 10 (some 37) HT_ ?_
        refine pu_ 11 (some 38) HT_ ?_
        refine pu_ 12 (some 39) HT_ ?_
        refine pu_ 13 (some 40) HT_ ?_
        refine pu_ 14 (some 41) HT_ ?_
        refine pu_ 15 (some 42) HT_ ?_
        refine pu_ 16 (some 43) HT_ ?_
        refine pu_ 17 (some 44) HT_ ?_
        refine pz_ 18 (some 45) HT_ ?_
        refine pz_ 19 (some 46) HT_ ?_
        refine pu_ 20 (some 47) HT_ ?_
        refine pu_ 21 (some 48) HT_ ?_
        refine pu_ 22 (some 49) HT_ ?_
        refine pu_ 23 (some 50) HT_ ?_
        refine pu_ 24 (some 51) HT_ ?_
        refine pu_ 25 (some 52) HT_ ?_
        refine pu_ 26 (some 53) HT_ ?_
        refine pu_ 27 (some 54) HT_ ?_
        refine pu_ 28 (some 55) HT_ ?_
        refine pu_ 29 (some 56) HT_ ?_
        refine pu_ 30 (some 57) HT_ ?_
        refine pu_ 31 (some 58) HT_ ?_
        refine pu_ 32 (some 59) HT_ ?_
        refine pz_ 33 (some 60) HT_ ?_
        refine done_ (done_of HT_.out (by kernel_rfl)) ?_
        try go_wp2
        go_ret
        exact ⟨by first | rfl | (simp [errW_none, errW_some] <;> rfl) | (simp [*, errW_none, errW_some] <;> rfl), bn HB⟩
      ·rw [if_neg c9] at H
       have c9b0 := decide_eq_false c9
       clear c9
       obtain rfl := Option.some.inj H
       obtain ⟨hcz53_0, hcz53_1, hfz53_0, hfz53_1⟩ := c2 BK213
       go_wp2
       go_ret
       exact ⟨by first | rfl | (simp [errW_none, errW_some] <;> rfl) | (simp [*, errW_none, errW_some] <;> rfl), bn HB⟩

end Go.Proofs.Ytdlnnjgjfngccaa.F
