-- Written by oprint.py (wip/tools) over the kit's print program, for this seat.
import Derived.Test.YtdlnnjgjfngccaaF0
import Derived.Test.YtdlnnjgjfngccaaF29
import Derived.Test.YtdlnnjgjfngccaaF62
import Derived.Test.YtdlnnjgjfngccaaF8
namespace Go.Proofs.Ytdlnnjgjfngccaa.F
open Go.RowKit Go.Proofs.YtdlnnjgjfngccaaW.PrintWords Go.Proofs.YtdlnnjgjfngccaaW.PrintLast Go.Proofs.YtdlnnjgjfngccaaW.PrintMore
attribute [local go_sem] max2_int min2_int max_two min_two max_three min_three max_four min_four   -- for this text's walks alone
set_option linter.unusedVariables false
set_option linter.unusedSimpArgs false

/-! ### impl_BlockCuts: function 59 -/
def impl_BlockCuts.l0 : Nat → List Int → Int → Int → Int → List (S73) → Option (List Int)
 | 0, _, _, _, _, _ => none
 | k + 1, x3, x12, x13, x949000, x949001 => if x13 < x12 then ((impl_Net_without.f k x949000 x949001 x13).bind fun bt953 => (if (bt953.2.length : Int) < (x949001.length : Int) then ((impl_Net_count.f k bt953.1 bt953.2).bind fun t958 => ((impl_Net_count.f k x949000 x949001).bind fun t959 => (if (wrap64 (t958 - 1)) > t959 then (if x3.length < 17592186044416 then (impl_BlockCuts.l0 k (x3 ++ [x13]) x12 (wrap64 (x13 + 1)) x949000 x949001) else (none)) else (impl_BlockCuts.l0 k x3 x12 (wrap64 (x13 + 1)) x949000 x949001)))) else (impl_BlockCuts.l0 k x3 x12 (wrap64 (x13 + 1)) x949000 x949001))) else (some x3)
def impl_BlockCuts.f (k : Nat) (a0_0 : Int) (l0_1 : List (S73)) : Option (List Int) := (some (([] : List Int) : List Int)).bind fun y949 => ((impl_NetOk.f k a0_0 l0_1).bind fun t952 => (if t952 = true then (impl_BlockCuts.l0 k y949 a0_0 0 a0_0 l0_1) else (some y949)))
theorem impl_BlockCuts.mono_l : ∀ k, (∀ y0 y1 y2 y3 y4, LeO (impl_BlockCuts.l0 k y0 y1 y2 y3 y4) (impl_BlockCuts.l0 (k + 1) y0 y1 y2 y3 y4))
 | 0 => fun _ _ _ _ _ r h => by simp [impl_BlockCuts.l0] at h
 | k + 1 => by
  have ih0 := impl_BlockCuts.mono_l k
  ·intro y0 y1 y2 y3 y4
   unfold impl_BlockCuts.l0
   repeat' first
   | (with_reducible exact ih0 _ _ _ _ _)
   | (with_reducible exact impl_NetOk.mono _ _ _)
   | (with_reducible exact impl_Net_count.mono _ _ _)
   | (with_reducible exact impl_Net_without.mono _ _ _ _)
   | (with_reducible exact LeO.refl _)
   | (with_reducible exact LeO.none _)
   | (with_reducible refine LeO.ite ?_ ?_)
   | (with_reducible refine LeO.bind ?_ (fun _ => ?_))
   | exact ih0 _ _ _ _ _
   | exact impl_NetOk.mono _ _ _
   | exact impl_Net_count.mono _ _ _
   | exact impl_Net_without.mono _ _ _ _
   | exact LeO.none _
   | refine LeO.ite ?_ ?_
   | refine LeO.bind ?_ (fun _ => ?_)
theorem impl_BlockCuts.mono : ∀ a0 a1 k, LeO (impl_BlockCuts.f k a0 a1) (impl_BlockCuts.f (k + 1) a0 a1) := by
 intro a0 a1 k
 have ih0 := impl_BlockCuts.mono_l k
 unfold impl_BlockCuts.f
 repeat' first
   | (with_reducible exact ih0 _ _ _ _ _)
   | (with_reducible exact impl_NetOk.mono _ _ _)
   | (with_reducible exact impl_Net_count.mono _ _ _)
   | (with_reducible exact impl_Net_without.mono _ _ _ _)
   | (with_reducible exact LeO.refl _)
   | (with_reducible exact LeO.none _)
   | (with_reducible refine LeO.ite ?_ ?_)
   | (with_reducible refine LeO.bind ?_ (fun _ => ?_))
   | exact ih0 _ _ _ _ _
   | exact impl_NetOk.mono _ _ _
   | exact impl_Net_count.mono _ _ _
   | exact impl_Net_without.mono _ _ _ _
   | exact LeO.none _
   | refine LeO.ite ?_ ?_
   | refine LeO.bind ?_ (fun _ => ?_)
def impl_BlockCuts.T8 : Bool × List (List Nat × List Nat) := (true, [([], []), ([0], [0]), ([1], [1]), ([], []), ([3], [3]), ([4], [4]), ([2, 5], [2, 5]), ([6], [6]), ([7], [7]), ([8, 7, 7], [7, 8]), ([9, 7], [7, 9]), ([7], [7]), ([11, 9, 7], [7, 11]), ([10, 12, 7], [7, 10, 12]), ([7, 13], [7, 13])])
def impl_BlockCuts.B8 : List Nat := [0, 1, 3, 0, 8, 24, 63, 127, 255, 511, 1023, 255, 3071, 8191, 16383]
theorem impl_BlockCuts.tab8 : rtab .any (opsOf Try.f59 8) = impl_BlockCuts.T8 := by kernel_rfl
theorem impl_BlockCuts.bits8 : waitsOk impl_BlockCuts.T8.2 impl_BlockCuts.B8 = true := by kernel_rfl
set_option maxHeartbeats 8000000 in
set_option maxRecDepth 100000 in
theorem impl_BlockCuts.calls (k : Nat) (a0_0 : Int) (A0_1 : Option Addr) (c0_1 : Nat) (l0_1 : List (S73)) (r : List Int) (w : World) (hr0_1 : Kd.C k73 w A0_1 l0_1.length l0_1) (hc0_1 : l0_1.length ≤ c0_1) (h : impl_BlockCuts.f k a0_0 l0_1 = some r) :
  Calls Try.prog 59 #[.agg #[.int .i64 a0_0, .slice A0_1 l0_1.length c0_1]] w fun e w' => ∃ v0_ : Value, e = .returned (v0_) ∧ Kd.R (Kd.int .i64) 3 w' w.heap.size (fun _ => True) v0_ r ∧ Below w.heap.size w w' := by
 have hu34 := Try.underlying34
 have HR0_1 := Aside0.mk hr0_1
 have HC0_1 := Aside0.mk hc0_1
 clear hr0_1 hc0_1
 have HB := Aside0.mk (Below.refl w.heap.size w)
 have H : ((some (([] : List Int) : List Int)).bind fun y949 => ((impl_NetOk.f k a0_0 l0_1).bind fun t952 => (if t952 = true then (impl_BlockCuts.l0 k y949 a0_0 0 a0_0 l0_1) else (some y949)))) = some r := h
 clear h
 obtain ⟨y949, hy949⟩ : ∃ y_ : List Int, y_ = (([] : List Int)) := ⟨_, rfl⟩
 replace H : ((impl_NetOk.f k a0_0 l0_1).bind fun t952 => (if t952 = true then (impl_BlockCuts.l0 k y949 a0_0 0 a0_0 l0_1) else (some y949))) = some r := by first | (rw [hy949]; with_reducible exact H) | (have H2_ := (Option.bind_some _ _).symm.trans H; rw [hy949]; with_reducible exact H2_) | (have H2_ := (Option.bind_some _ _).symm.trans H; with_reducible exact H2_) | with_reducible exact H | (rw [hy949]; exact H) | exact H
 have Ny949 := Aside0.mk hy949
 clear hy949
 replace H := Option.bind_eq_some_iff.mp H
 obtain ⟨t952, A20, H⟩ := H
 (try dsimp only at H)
 have A2 := Aside0.mk A20
 clear A20
 by_cases c3 : t952 = true
 ·subst c3
  rw [if_pos rfl] at H
  have H' := Aside0.mk H
  clear H
  go_enter Try.func59, Try.ntmps59
  go_wp2_with (first | ((with_reducible refine gate_dst (N := 1) rfl ?_); refine box_event ?hg (N := 1) ?hd (cs := #[.int .i64 a0_0, .slice A0_1 l0_1.length c0_1]) (t := 34) ?hr ?_; (case hd => rfl); (case hg => rfl); (case hr => first | (go_simp; done) | (go_simp; rfl)); intro gb948 hg w4 hbox hb; have n0_ := Aside0.mk (below_step (bn HB) hb); have n1_ := Aside0.mk (hbox); have n2_ := Aside0.mk ((by rw [hg]; exact (below_size (bn HB)) : w.heap.size ≤ gb948)); have n3_ := Aside0.mk ((by rw [hg]; exact (below_size (bn HB)) : w.heap.size ≤ gb948)); clear HB; have HB := n0_; have BK948 := n1_; have GW948 := n2_; have GE948 := n3_; clear n0_ n1_ n2_ n3_; clear hb hbox hg) | ((with_reducible refine gate_dst (N := 6) rfl ?_); refine Kd.R_lit (Kd.int .i64) _ 3 ?hg (N := 6) ?hd (xs := ([] : List Int)) (inner := []) (ok := fun _ => True) (okp := fun _ => True) ?hr ?hp (fun _ hk => hk) trivial (Below.refl _ _) (Nat.le_refl _) (by simp) ?_; (case hd => rfl); (case hg => rfl); (case hr => first | (go_simp; done) | (go_simp; rfl)); (case hp => exact (Reps.none _ _)); intro v950 w5 ho6 hb hg_ hnew_; clear hg_ hnew_; (first | rw [← Ny949.out] at ho6 | (simp only [Int.reduceToNat] at ho6; rw [← Ny949.out] at ho6)); have n0_ := Aside0.mk (Kd.R_lower ho6 (below_size (bn HB))); have n1_ := Aside0.mk (blk_below (bkn BK948) hb); have n2_ := Aside0.mk (below_step (bn HB) hb); clear BK948; clear HB; have HO951 := n0_; have BK948 := n1_; have HB := n2_; clear n0_ n1_ n2_; clear hb ho6; have hcz7_0 := bc BK948 0; have hcz7_1 := bc BK948 1; have hfz7_0 := blk_frozen BK948.out 0; have hfz7_1 := blk_frozen BK948.out 1) | ((with_reducible refine gate_callee (f := 91) rfl ?_); refine gl_ (some 8) Try.func91 #[.agg #[.int .i64 a0_0, .slice A0_1 l0_1.length c0_1]] ?_; (with_reducible refine (impl_NetOk.calls k a0_0 _ _ l0_1 true _ ?side1 ?side2 A2.out).mono ?_); (case side1 => repeat (first | exact (Kd.C_below HR0_1.out HB.out) | (with_reducible refine Kd.C_alloc ?_ _) | (with_reducible refine Kd.C_drewN ?_ _) | (with_reducible refine Kd.C_drew ?_))); (case side2 => exact HC0_1.out); rintro e w8 ⟨rfl, hb⟩; refine ⟨_, rfl, ?_⟩; have n0_ := Aside0.mk (Kd.R_below (onR HO951) hb); have n1_ := Aside0.mk (blk_below (bkn BK948) hb); have n2_ := Aside0.mk (below_step (bn HB) hb); clear HO951; clear BK948; clear HB; have HO951 := n0_; have BK948 := n1_; have HB := n2_; clear n0_ n1_ n2_; (try clear hb); have hcz9_0 := bc BK948 0; have hcz9_1 := bc BK948 1; have hfz9_0 := blk_frozen BK948.out 0; have hfz9_1 := blk_frozen BK948.out 1))
  go_loopg [3, 13] k (fun kq v3 v13 w' => ∃ (x3_1 : List Int) (x13_1 : Int), v13 = .int .i64 x13_1 ∧ Aside0 (impl_BlockCuts.l0 kq x3_1 a0_0 x13_1 a0_0 l0_1 = some r) ∧ Aside0 (kq ≤ k) ∧ Aside0 (Kd.R (Kd.int .i64) 3 w' w.heap.size (fun _ => True) v3 x3_1) ∧ Aside0 (w'.heap[gb948]? = some (.cells #[.int .i64 a0_0, (.slice A0_1 l0_1.length c0_1)] 34 (0, 0))) ∧ Aside0 (Below w.heap.size w w'))
  case atStart => exact ⟨(y949), (0), (by first | rfl | (simp; done) | (simp [*]; done)), H', ⟨Nat.le_refl _⟩, ⟨onR HO951⟩, ⟨bkn BK948⟩, ⟨bn HB⟩⟩
  case round =>
   clear H'
   try clear p2
   try clear c3
   try clear c5
   try clear c9
   try clear hcz7_0
   try clear hcz7_1
   try clear hcz9_0
   try clear hcz9_1
   try clear hfz7_0
   try clear hfz7_1
   try clear hfz9_0
   try clear hfz9_1
   obtain ⟨x3_1, x13_1, rfl, HA, HK1, HO_3, BK948, HB⟩ := hrel
   cases gk with
   | zero => exact absurd HA.out (by simp [impl_BlockCuts.l0])
   | succ k1 =>
    have H := HA.out
    clear HA
    simp only [impl_BlockCuts.l0] at H
    by_cases c10 : x13_1 < a0_0
    ·rw [if_pos c10] at H
     have c10b0 := decide_eq_true c10
     clear c10
     replace H := Option.bind_eq_some_iff.mp H
     obtain ⟨⟨t953, t954⟩, A110, H⟩ := H
     (try dsimp only at H)
     have A11 := Aside0.mk A110
     clear A110
     by_cases c12 : (t954.length : Int) < (l0_1.length : Int)
     ·rw [if_pos c12] at H
      have c12b0 := decide_eq_true c12
      have c12b1 : decide (t954.length < l0_1.length) = true := decide_eq_true (Int.ofNat_lt.mp c12)
      clear c12
      replace H := Option.bind_eq_some_iff.mp H
      obtain ⟨t958, A130, H⟩ := H
      (try dsimp only at H)
      have A13 := Aside0.mk A130
      clear A130
      replace H := Option.bind_eq_some_iff.mp H
      obtain ⟨t959, A140, H⟩ := H
      (try dsimp only at H)
      have A14 := Aside0.mk A140
      clear A140
      by_cases c15 : (wrap64 (t958 - 1)) > t959
      ·rw [if_pos c15] at H
       have c15b0 := decide_eq_true c15
       clear c15
       by_cases c16 : x3_1.length < 17592186044416
       ·rw [if_pos c16] at H
        have LMc16 := Aside0.mk c16
        clear c16
        obtain ⟨y960, hy960⟩ : ∃ y_ : List Int, y_ = (x3_1 ++ [x13_1]) := ⟨_, rfl⟩
        replace H : (impl_BlockCuts.l0 k1 y960 a0_0 (wrap64 (x13_1 + 1)) a0_0 l0_1) = some r := by first | (rw [hy960]; with_reducible exact H) | (have H2_ := (Option.bind_some _ _).symm.trans H; rw [hy960]; with_reducible exact H2_) | (have H2_ := (Option.bind_some _ _).symm.trans H; with_reducible exact H2_) | with_reducible exact H | (rw [hy960]; exact H) | exact H
        have Ny960 := Aside0.mk hy960
        clear hy960
        have H' := Aside0.mk H
        clear H
        have hcz17_0 := bc BK948 0
        have hcz17_1 := bc BK948 1
        have hfz17_0 := blk_frozen BK948.out 0
        have hfz17_1 := blk_frozen BK948.out 1
        try go_wp2_with (first | ((with_reducible refine gate_callee (f := 101) rfl ?_); refine gl_ (some 18) Try.func101 #[.agg #[.int .i64 a0_0, .slice A0_1 l0_1.length c0_1], .int .i64 x13_1] ?_; (with_reducible refine (impl_Net_without.calls k1 a0_0 _ _ l0_1 x13_1 t953 t954 _ ?side1 ?side2 A11.out).mono ?_); (case side1 => repeat (first | exact (Kd.C_below HR0_1.out HB.out) | (with_reducible refine Kd.C_alloc ?_ _) | (with_reducible refine Kd.C_drewN ?_ _) | (with_reducible refine Kd.C_drew ?_))); (case side2 => exact HC0_1.out); rintro e w18 ⟨v955, rfl, ho0, hb⟩; refine ⟨_, rfl, ?_⟩; have n0_ := Aside0.mk (Kd.R_below (onR HO_3) hb); have n1_ := Aside0.mk (Kd.R_lower ho0 (below_size (bn HB))); have n2_ := Aside0.mk (blk_below (bkn BK948) hb); have n3_ := Aside0.mk (below_step (bn HB) hb); clear HO_3; clear BK948; clear HB; have HO_3 := n0_; have HO956 := n1_; have BK948 := n2_; have HB := n3_; clear n0_ n1_ n2_ n3_; (try clear hb); (try clear ho0)) | ((with_reducible refine gate_dst (N := 5) rfl ?_); refine box_event ?hg (N := 5) ?hd (cs := #[.int .i64 0, .slice none 0 0]) (t := 34) ?hr ?_; (case hd => rfl); (case hg => rfl); (case hr => first | (go_simp; done) | (go_simp; rfl)); intro gb957 hg w19 hbox hb; have n0_ := Aside0.mk (Kd.R_below (onR HO_3) hb); have n1_ := Aside0.mk (Kd.R_below (onR HO956) hb); have n2_ := Aside0.mk (blk_below (bkn BK948) hb); have n3_ := Aside0.mk (below_step (bn HB) hb); have n4_ := Aside0.mk (hbox); have n5_ := Aside0.mk ((by rw [hg]; exact (below_size (bn HB)) : w.heap.size ≤ gb957)); have n6_ := Aside0.mk ((by rw [hg]; exact (below_size (bn HB)) : w.heap.size ≤ gb957)); have n7_ := Aside0.mk ((by rw [hg]; exact Nat.ne_of_lt (blk_lt (bkn BK948)) : gb948 ≠ gb957)); have n8_ := Aside0.mk ((by rw [hg]; exact Nat.ne_of_gt (blk_lt (bkn BK948)) : gb957 ≠ gb948)); clear HO_3; clear HO956; clear BK948; clear HB; have HO_3 := n0_; have HO956 := n1_; have BK948 := n2_; have HB := n3_; have BK957 := n4_; have GW957 := n5_; have GE957 := n6_; have NB948_957 := n7_; have NB957_948 := n8_; clear n0_ n1_ n2_ n3_ n4_ n5_ n6_ n7_ n8_; clear hb hbox hg; have hnb20 := NB957_948.out; have hnc20 := NB948_957.out; have hcz21_0 := bc BK957 0; have hcz21_1 := bc BK957 1; have hfz21_0 := blk_frozen BK957.out 0; have hfz21_1 := blk_frozen BK957.out 1; obtain ⟨Ao22, co22, eo22⟩ := Kd.R_slice HO956.out; subst eo22))
        have n0_ : Aside0 (Kd.R (Kd.int .i64) 3 ((w19.setCell ⟨gb957, 0, none⟩ (.int .i64 t953)).setCell ⟨gb957, 1, none⟩ (.slice Ao22 t954.length co22)) w.heap.size (fun _ => True) u3 x3_1) := ⟨by (with_reducible repeat (first | apply Kd.R_alloc | apply Kd.R_drewN | apply Kd.R_drew)); exact Kd.R_mono (Kd.R_far (p := ⟨gb957, 1, none⟩) (Kd.R_far (p := ⟨gb957, 0, none⟩) (Kd.R_types HO_3.out BK957.out (by decide)) (fun _ hk => hk.2) (.int .i64 t953)) (fun _ hk => hk.2) (.slice Ao22 t954.length co22)) (fun _ hk => trivial)⟩
        have n1_ : Aside0 (Kd.R k73 73 ((w19.setCell ⟨gb957, 0, none⟩ (.int .i64 t953)).setCell ⟨gb957, 1, none⟩ (.slice Ao22 t954.length co22)) w.heap.size (fun _ => True) (.slice Ao22 t954.length co22) t954) := ⟨by (with_reducible repeat (first | apply Kd.R_alloc | apply Kd.R_drewN | apply Kd.R_drew)); exact Kd.R_mono (Kd.R_far (p := ⟨gb957, 1, none⟩) (Kd.R_far (p := ⟨gb957, 0, none⟩) (Kd.R_types HO956.out BK957.out (by decide)) (fun _ hk => hk.2) (.int .i64 t953)) (fun _ hk => hk.2) (.slice Ao22 t954.length co22)) (fun _ hk => trivial)⟩
        have n2_ : Aside0 (((w19.setCell ⟨gb957, 0, none⟩ (.int .i64 t953)).setCell ⟨gb957, 1, none⟩ (.slice Ao22 t954.length co22)).heap[gb948]? = some (.cells #[.int .i64 a0_0, .slice A0_1 l0_1.length c0_1] 34 (0, 0))) := ⟨bkn BK948⟩
        have n3_ : Aside0 (((w19.setCell ⟨gb957, 0, none⟩ (.int .i64 t953)).setCell ⟨gb957, 1, none⟩ (.slice Ao22 t954.length co22)).heap[gb957]? = some (.cells #[.int .i64 t953, .slice Ao22 t954.length co22] 34 (0, 0))) := ⟨by (with_reducible repeat (first | refine blk_drewN ?_ _ | refine blk_drew ?_ | refine blk_alloc ?_ _)); refine blk_put (cs := #[.int .i64 t953, .slice none 0 0]) ?_ 1 _ rfl; (with_reducible repeat (first | refine blk_drewN ?_ _ | refine blk_drew ?_ | refine blk_alloc ?_ _)); refine blk_put (cs := #[.int .i64 0, .slice none 0 0]) ?_ 0 _ rfl; (with_reducible repeat (first | refine blk_drewN ?_ _ | refine blk_drew ?_ | refine blk_alloc ?_ _)); exact BK957.out⟩
        have n4_ : Aside0 (Below w.heap.size w ((w19.setCell ⟨gb957, 0, none⟩ (.int .i64 t953)).setCell ⟨gb957, 1, none⟩ (.slice Ao22 t954.length co22))) := ⟨bn HB⟩
        (try clear HO_3)
        (try clear HO956)
        (try clear BK948)
        (try clear BK957)
        (try clear HB)
        generalize ((w19.setCell ⟨gb957, 0, none⟩ (.int .i64 t953)).setCell ⟨gb957, 1, none⟩ (.slice Ao22 t954.length co22)) = w23 at n0_ n1_ n2_ n3_ n4_ ⊢
        have HO_3 := n0_
        have HO956 := n1_
        have BK948 := n2_
        have BK957 := n3_
        have HB := n4_
        clear n0_ n1_ n2_ n3_ n4_
        have n0_ := Aside0.mk (Kd.R_drew HO_3.out)
        have n1_ := Aside0.mk (Kd.R_drew HO956.out)
        have n2_ := Aside0.mk (blk_drew BK948.out)
        have n3_ := Aside0.mk (blk_drew BK957.out)
        have n4_ := Aside0.mk (below_drew1 HB.out)
        clear HO_3 HO956 BK948 BK957 HB
        have HO_3 := n0_
        have HO956 := n1_
        have BK948 := n2_
        have BK957 := n3_
        have HB := n4_
        clear n0_ n1_ n2_ n3_ n4_
        refine start_ (n := 15) (S := fun w' => w'.cell? ⟨gb957, 0, none⟩ = some (.int .i64 t953) ∧ w'.cell? ⟨gb957, 1, none⟩ = some (.slice Ao22 t954.length co22) ∧ w'.cell? ⟨gb948, 0, none⟩ = some (.int .i64 a0_0) ∧ w'.cell? ⟨gb948, 1, none⟩ = some (.slice A0_1 l0_1.length c0_1)) (ds := []) #[false, false, false, false, false, false, false, false, false, false, false, false, false, false, false] (by kernel_rfl) rfl rfl ⟨(blk_cell BK957.out 0).trans rfl, (blk_cell BK957.out 1).trans rfl, (blk_cell BK948.out 0).trans rfl, (blk_cell BK948.out 1).trans rfl⟩ (fun hHeld => ?_); refine with_tabW impl_BlockCuts.tab8 impl_BlockCuts.bits8 (fun HT_ HW_ => ?_)
        generalize w23.drew = w24 at HO_3 HO956 BK948 BK957 HB hHeld ⊢
        refine pz_ 0 (some 19) HT_ ?_
        refine pz_ 3 (some 22) HT_ ?_
        refine tz_ 1 (some 20) HT_ HW_ hHeld ?_
        refine pz_ 2 (some 21) HT_ ?_
        refine tz_ 4 (some 23) HT_ HW_ hHeld ?_
        refine pz_ 5 (some 24) HT_ ?_
        refine pz_ 6 (some 25) HT_ ?_
        refine pz_ 7 (some 26) HT_ ?_
        refine tz_ 8 (some 27) HT_ HW_ hHeld ?_
        refine tz_ 11 (some 30) HT_ HW_ hHeld ?_
        refine one_ (i := 9) (N := some 28) #[true, true, true, true, true, true, true, true, true, true, false, true, false, false, false] rfl rfl (one_of HT_.out (by kernel_rfl)) (by decide) (fun K hK => ?_)
        refine gg_ Try.func116 #[.agg #[.int .i64 t953, .slice Ao22 t954.length co22]] ?_
        with_reducible refine (impl_Net_count.calls k1 t953 _ _ t954 t958 _ ?side1 ?side2 A13.out).mono ?_
        (case side1 => repeat (first | exact (Kd.R_reads' HO956.out).2.2 | (with_reducible refine Kd.C_alloc ?_ _) | (with_reducible refine Kd.C_drewN ?_ _) | (with_reducible refine Kd.C_drew ?_)))
        (case side2 => exact (Kd.R_reads' HO956.out).2.1)
        rintro e w25 ⟨rfl, hb⟩
        refine ⟨_, rfl, ?_⟩
        have n0_ := Aside0.mk (Kd.R_below (onR HO_3) hb)
        have n1_ := Aside0.mk (Kd.R_below (onR HO956) hb)
        have n2_ := Aside0.mk (blk_below (bkn BK948) hb)
        have n3_ := Aside0.mk (blk_below (bkn BK957) hb)
        have n4_ := Aside0.mk (below_step (bn HB) hb)
        clear HO_3 HO956 BK948 BK957 HB
        have HO_3 := n0_
        have HO956 := n1_
        have BK948 := n2_
        have BK957 := n3_
        have HB := n4_
        clear n0_ n1_ n2_ n3_ n4_
        (try clear hb)
        (try clear hb2)
        (try clear hk)
        (try clear hi)
        refine hK.out _ _ ⟨(blk_cell BK957.out 0).trans rfl, (blk_cell BK957.out 1).trans rfl, (blk_cell BK948.out 0).trans rfl, (blk_cell BK948.out 1).trans rfl⟩ (fun hHeld => ?_)
        clear hK K
        refine norm_ (a' := ?_) ?_ ?_
        rotate_left
        ·show Act.put _ (some 28) _ = _
         simp only [Act.put, List.setIfInBounds_toArray, List.set_cons_zero, List.set_cons_succ, i64_w, i32_w]
         rfl
        refine pz_ 10 (some 29) HT_ ?_
        refine one_ (i := 12) (N := some 31) #[true, true, true, true, true, true, true, true, true, true, true, true, true, false, false] rfl rfl (one_of HT_.out (by kernel_rfl)) (by decide) (fun K hK => ?_)
        refine gg_ Try.func116 #[.agg #[.int .i64 a0_0, .slice A0_1 l0_1.length c0_1]] ?_
        with_reducible refine (impl_Net_count.calls k1 a0_0 _ _ l0_1 t959 _ ?side1 ?side2 A14.out).mono ?_
        (case side1 => repeat (first | exact (Kd.C_below HR0_1.out HB.out) | (with_reducible refine Kd.C_alloc ?_ _) | (with_reducible refine Kd.C_drewN ?_ _) | (with_reducible refine Kd.C_drew ?_)))
        (case side2 => exact HC0_1.out)
        rintro e w26 ⟨rfl, hb⟩
        refine ⟨_, rfl, ?_⟩
        have n0_ := Aside0.mk (Kd.R_below (onR HO_3) hb)
        have n1_ := Aside0.mk (Kd.R_below (onR HO956) hb)
        have n2_ := Aside0.mk (blk_below (bkn BK948) hb)
        have n3_ := Aside0.mk (blk_below (bkn BK957) hb)
        have n4_ := Aside0.mk (below_step (bn HB) hb)
        clear HO_3 HO956 BK948 BK957 HB
        have HO_3 := n0_
        have HO956 := n1_
        have BK948 := n2_
        have BK957 := n3_
        have HB := n4_
        clear n0_ n1_ n2_ n3_ n4_
        (try clear hb)
        (try clear hb2)
        (try clear hk)
        (try clear hi)
        refine hK.out _ _ ⟨(blk_cell BK957.out 0).trans rfl, (blk_cell BK957.out 1).trans rfl, (blk_cell BK948.out 0).trans rfl, (blk_cell BK948.out 1).trans rfl⟩ (fun hHeld => ?_)
        clear hK K
        refine norm_ (a' := ?_) ?_ ?_
        rotate_left
        ·show Act.put _ (some 31) _ = _
         simp only [Act.put, List.setIfInBounds_toArray, List.set_cons_zero, List.set_cons_succ, i64_w, i32_w]
         rfl
        refine pz_ 13 (some 32) HT_ ?_
        refine pz_ 14 (some 33) HT_ ?_
        refine done_ (done_of HT_.out (by kernel_rfl)) ?_
        try go_wp2_with (first | ((with_reducible refine gate_builtin (b := .append) (xs := #[.tmp 34, .tmp 36]) rfl ?_); at_builtin; refine Kd.R_append (Kd.int .i64) (w0 := w) w.heap.size rfl (.tmp 34) (.tmp 36) 40 3 (.int .i64 0) 8 rfl Try.underlying40 info3 rfl (by decide) (by omega) u3 x3_1 x13_1 [.int .i64 x13_1] (fun _ => True) (fun _ => False) rfl rfl ?aP (fun _ hk => hk.elim) ?aF ?aO ?aB ?aS ?aL ?_; (case aP => exact rfl); (case aB => exact (bn HB)); (case aF => exact (fun _ _ => trivial)); (case aO => exact (onR HO_3)); (case aS => exact (below_size (bn HB))); (case aL => have := LMc16.out; omega); intro v961 w27 ho hb hg hat; rw [← Ny960.out] at ho; have n0_ := Aside0.mk (blk_grown (bkn BK948) hg (Kd.R_ne HO_3.out BK948.out (by decide))); have n1_ := Aside0.mk (Kd.R_over' (onR HO956) (Kd.R_typed (onR HO_3)) (by decide) hg); have n2_ := Aside0.mk (blk_grown (bkn BK957) hg (Kd.R_ne HO_3.out BK957.out (by decide))); have n3_ := Aside0.mk (hb); have n4_ := Aside0.mk (ho); clear BK948; clear HO956; clear BK957; clear HB; clear HO_3; have BK948 := n0_; have HO956 := n1_; have BK957 := n2_; have HB := n3_; have HO962 := n4_; clear n0_ n1_ n2_ n3_ n4_; clear ho hb hg hat))
        go_roundg k1
        case measure => have := HK1.out; omega
        case rel => exact ⟨(y960), (wrap64 (x13_1 + 1)), (by first | rfl | (simp; done) | (simp [*]; done)), H', ⟨by have := HK1.out; omega⟩, ⟨onR HO962⟩, ⟨bkn BK948⟩, ⟨bn HB⟩⟩
       ·rw [if_neg c16] at H
        exact absurd H (by simp)
      ·rw [if_neg c15] at H
       have c15b0 := decide_eq_false c15
       clear c15
       have H' := Aside0.mk H
       clear H
       have hcz28_0 := bc BK948 0
       have hcz28_1 := bc BK948 1
       have hfz28_0 := blk_frozen BK948.out 0
       have hfz28_1 := blk_frozen BK948.out 1
       try go_wp2_with (first | ((with_reducible refine gate_callee (f := 101) rfl ?_); refine gl_ (some 18) Try.func101 #[.agg #[.int .i64 a0_0, .slice A0_1 l0_1.length c0_1], .int .i64 x13_1] ?_; (with_reducible refine (impl_Net_without.calls k1 a0_0 _ _ l0_1 x13_1 t953 t954 _ ?side1 ?side2 A11.out).mono ?_); (case side1 => repeat (first | exact (Kd.C_below HR0_1.out HB.out) | (with_reducible refine Kd.C_alloc ?_ _) | (with_reducible refine Kd.C_drewN ?_ _) | (with_reducible refine Kd.C_drew ?_))); (case side2 => exact HC0_1.out); rintro e w29 ⟨v955, rfl, ho0, hb⟩; refine ⟨_, rfl, ?_⟩; have n0_ := Aside0.mk (Kd.R_below (onR HO_3) hb); have n1_ := Aside0.mk (Kd.R_lower ho0 (below_size (bn HB))); have n2_ := Aside0.mk (blk_below (bkn BK948) hb); have n3_ := Aside0.mk (below_step (bn HB) hb); clear HO_3; clear BK948; clear HB; have HO_3 := n0_; have HO956 := n1_; have BK948 := n2_; have HB := n3_; clear n0_ n1_ n2_ n3_; (try clear hb); (try clear ho0)) | ((with_reducible refine gate_dst (N := 5) rfl ?_); refine box_event ?hg (N := 5) ?hd (cs := #[.int .i64 0, .slice none 0 0]) (t := 34) ?hr ?_; (case hd => rfl); (case hg => rfl); (case hr => first | (go_simp; done) | (go_simp; rfl)); intro gb957 hg w30 hbox hb; have n0_ := Aside0.mk (Kd.R_below (onR HO_3) hb); have n1_ := Aside0.mk (Kd.R_below (onR HO956) hb); have n2_ := Aside0.mk (blk_below (bkn BK948) hb); have n3_ := Aside0.mk (below_step (bn HB) hb); have n4_ := Aside0.mk (hbox); have n5_ := Aside0.mk ((by rw [hg]; exact (below_size (bn HB)) : w.heap.size ≤ gb957)); have n6_ := Aside0.mk ((by rw [hg]; exact (below_size (bn HB)) : w.heap.size ≤ gb957)); have n7_ := Aside0.mk ((by rw [hg]; exact Nat.ne_of_lt (blk_lt (bkn BK948)) : gb948 ≠ gb957)); have n8_ := Aside0.mk ((by rw [hg]; exact Nat.ne_of_gt (blk_lt (bkn BK948)) : gb957 ≠ gb948)); clear HO_3; clear HO956; clear BK948; clear HB; have HO_3 := n0_; have HO956 := n1_; have BK948 := n2_; have HB := n3_; have BK957 := n4_; have GW957 := n5_; have GE957 := n6_; have NB948_957 := n7_; have NB957_948 := n8_; clear n0_ n1_ n2_ n3_ n4_ n5_ n6_ n7_ n8_; clear hb hbox hg; have hnb31 := NB957_948.out; have hnc31 := NB948_957.out; have hcz32_0 := bc BK957 0; have hcz32_1 := bc BK957 1; have hfz32_0 := blk_frozen BK957.out 0; have hfz32_1 := blk_frozen BK957.out 1; obtain ⟨Ao33, co33, eo33⟩ := Kd.R_slice HO956.out; subst eo33))
       have n0_ : Aside0 (Kd.R (Kd.int .i64) 3 ((w30.setCell ⟨gb957, 0, none⟩ (.int .i64 t953)).setCell ⟨gb957, 1, none⟩ (.slice Ao33 t954.length co33)) w.heap.size (fun _ => True) u3 x3_1) := ⟨by (with_reducible repeat (first | apply Kd.R_alloc | apply Kd.R_drewN | apply Kd.R_drew)); exact Kd.R_mono (Kd.R_far (p := ⟨gb957, 1, none⟩) (Kd.R_far (p := ⟨gb957, 0, none⟩) (Kd.R_types HO_3.out BK957.out (by decide)) (fun _ hk => hk.2) (.int .i64 t953)) (fun _ hk => hk.2) (.slice Ao33 t954.length co33)) (fun _ hk => trivial)⟩
       have n1_ : Aside0 (Kd.R k73 73 ((w30.setCell ⟨gb957, 0, none⟩ (.int .i64 t953)).setCell ⟨gb957, 1, none⟩ (.slice Ao33 t954.length co33)) w.heap.size (fun _ => True) (.slice Ao33 t954.length co33) t954) := ⟨by (with_reducible repeat (first | apply Kd.R_alloc | apply Kd.R_drewN | apply Kd.R_drew)); exact Kd.R_mono (Kd.R_far (p := ⟨gb957, 1, none⟩) (Kd.R_far (p := ⟨gb957, 0, none⟩) (Kd.R_types HO956.out BK957.out (by decide)) (fun _ hk => hk.2) (.int .i64 t953)) (fun _ hk => hk.2) (.slice Ao33 t954.length co33)) (fun _ hk => trivial)⟩
       have n2_ : Aside0 (((w30.setCell ⟨gb957, 0, none⟩ (.int .i64 t953)).setCell ⟨gb957, 1, none⟩ (.slice Ao33 t954.length co33)).heap[gb948]? = some (.cells #[.int .i64 a0_0, .slice A0_1 l0_1.length c0_1] 34 (0, 0))) := ⟨bkn BK948⟩
       have n3_ : Aside0 (((w30.setCell ⟨gb957, 0, none⟩ (.int .i64 t953)).setCell ⟨gb957, 1, none⟩ (.slice Ao33 t954.length co33)).heap[gb957]? = some (.cells #[.int .i64 t953, .slice Ao33 t954.length co33] 34 (0, 0))) := ⟨by (with_reducible repeat (first | refine blk_drewN ?_ _ | refine blk_drew ?_ | refine blk_alloc ?_ _)); refine blk_put (cs := #[.int .i64 t953, .slice none 0 0]) ?_ 1 _ rfl; (with_reducible repeat (first | refine blk_drewN ?_ _ | refine blk_drew ?_ | refine blk_alloc ?_ _)); refine blk_put (cs := #[.int .i64 0, .slice none 0 0]) ?_ 0 _ rfl; (with_reducible repeat (first | refine blk_drewN ?_ _ | refine blk_drew ?_ | refine blk_alloc ?_ _)); exact BK957.out⟩
       have n4_ : Aside0 (Below w.heap.size w ((w30.setCell ⟨gb957, 0, none⟩ (.int .i64 t953)).setCell ⟨gb957, 1, none⟩ (.slice Ao33 t954.length co33))) := ⟨bn HB⟩
       (try clear HO_3)
       (try clear HO956)
       (try clear BK948)
       (try clear BK957)
       (try clear HB)
       generalize ((w30.setCell ⟨gb957, 0, none⟩ (.int .i64 t953)).setCell ⟨gb957, 1, none⟩ (.slice Ao33 t954.length co33)) = w34 at n0_ n1_ n2_ n3_ n4_ ⊢
       have HO_3 := n0_
       have HO956 := n1_
       have BK948 := n2_
       have BK957 := n3_
       have HB := n4_
       clear n0_ n1_ n2_ n3_ n4_
       have n0_ := Aside0.mk (Kd.R_drew HO_3.out)
       have n1_ := Aside0.mk (Kd.R_drew HO956.out)
       have n2_ := Aside0.mk (blk_drew BK948.out)
       have n3_ := Aside0.mk (blk_drew BK957.out)
       have n4_ := Aside0.mk (below_drew1 HB.out)
       clear HO_3 HO956 BK948 BK957 HB
       have HO_3 := n0_
       have HO956 := n1_
       have BK948 := n2_
       have BK957 := n3_
       have HB := n4_
       clear n0_ n1_ n2_ n3_ n4_
       refine start_ (n := 15) (S := fun w' => w'.cell? ⟨gb957, 0, none⟩ = some (.int .i64 t953) ∧ w'.cell? ⟨gb957, 1, none⟩ = some (.slice Ao33 t954.length co33) ∧ w'.cell? ⟨gb948, 0, none⟩ = some (.int .i64 a0_0) ∧ w'.cell? ⟨gb948, 1, none⟩ = some (.slice A0_1 l0_1.length c0_1)) (ds := []) #[false, false, false, false, false, false, false, false, false, false, false, false, false, false, false] (by kernel_rfl) rfl rfl ⟨(blk_cell BK957.out 0).trans rfl, (blk_cell BK957.out 1).trans rfl, (blk_cell BK948.out 0).trans rfl, (blk_cell BK948.out 1).trans rfl⟩ (fun hHeld => ?_); refine with_tabW impl_BlockCuts.tab8 impl_BlockCuts.bits8 (fun HT_ HW_ => ?_)
       generalize w34.drew = w35 at HO_3 HO956 BK948 BK957 HB hHeld ⊢
       refine pz_ 0 (some 19) HT_ ?_
       refine pz_ 3 (some 22) HT_ ?_
       refine tz_ 1 (some 20) HT_ HW_ hHeld ?_
       refine pz_ 2 (some 21) HT_ ?_
       refine tz_ 4 (some 23) HT_ HW_ hHeld ?_
       refine pz_ 5 (some 24) HT_ ?_
       refine pz_ 6 (some 25) HT_ ?_
       refine pz_ 7 (some 26) HT_ ?_
       refine tz_ 8 (some 27) HT_ HW_ hHeld ?_
       refine tz_ 11 (some 30) HT_ HW_ hHeld ?_
       refine one_ (i := 9) (N := some 28) #[true, true, true, true, true, true, true, true, true, true, false, true, false, false, false] rfl rfl (one_of HT_.out (by kernel_rfl)) (by decide) (fun K hK => ?_)
       refine gg_ Try.func116 #[.agg #[.int .i64 t953, .slice Ao33 t954.length co33]] ?_
       with_reducible refine (impl_Net_count.calls k1 t953 _ _ t954 t958 _ ?side1 ?side2 A13.out).mono ?_
       (case side1 => repeat (first | exact (Kd.R_reads' HO956.out).2.2 | (with_reducible refine Kd.C_alloc ?_ _) | (with_reducible refine Kd.C_drewN ?_ _) | (with_reducible refine Kd.C_drew ?_)))
       (case side2 => exact (Kd.R_reads' HO956.out).2.1)
       rintro e w36 ⟨rfl, hb⟩
       refine ⟨_, rfl, ?_⟩
       have n0_ := Aside0.mk (Kd.R_below (onR HO_3) hb)
       have n1_ := Aside0.mk (Kd.R_below (onR HO956) hb)
       have n2_ := Aside0.mk (blk_below (bkn BK948) hb)
       have n3_ := Aside0.mk (blk_below (bkn BK957) hb)
       have n4_ := Aside0.mk (below_step (bn HB) hb)
       clear HO_3 HO956 BK948 BK957 HB
       have HO_3 := n0_
       have HO956 := n1_
       have BK948 := n2_
       have BK957 := n3_
       have HB := n4_
       clear n0_ n1_ n2_ n3_ n4_
       (try clear hb)
       (try clear hb2)
       (try clear hk)
       (try clear hi)
       refine hK.out _ _ ⟨(blk_cell BK957.out 0).trans rfl, (blk_cell BK957.out 1).trans rfl, (blk_cell BK948.out 0).trans rfl, (blk_cell BK948.out 1).trans rfl⟩ (fun hHeld => ?_)
       clear hK K
       refine norm_ (a' := ?_) ?_ ?_
       rotate_left
       ·show Act.put _ (some 28) _ = _
        simp only [Act.put, List.setIfInBounds_toArray, List.set_cons_zero, List.set_cons_succ, i64_w, i32_w]
        rfl
       refine pz_ 10 (some 29) HT_ ?_
       refine one_ (i := 12) (N := some 31) #[true, true, true, true, true, true, true, true, true, true, true, true, true, false, false] rfl rfl (one_of HT_.out (by kernel_rfl)) (by decide) (fun K hK => ?_)
       refine gg_ Try.func116 #[.agg #[.int .i64 a0_0, .slice A0_1 l0_1.length c0_1]] ?_
       with_reducible refine (impl_Net_count.calls k1 a0_0 _ _ l0_1 t959 _ ?side1 ?side2 A14.out).mono ?_
       (case side1 => repeat (first | exact (Kd.C_below HR0_1.out HB.out) | (with_reducible refine Kd.C_alloc ?_ _) | (with_reducible refine Kd.C_drewN ?_ _) | (with_reducible refine Kd.C_drew ?_)))
       (case side2 => exact HC0_1.out)
       rintro e w37 ⟨rfl, hb⟩
       refine ⟨_, rfl, ?_⟩
       have n0_ := Aside0.mk (Kd.R_below (onR HO_3) hb)
       have n1_ := Aside0.mk (Kd.R_below (onR HO956) hb)
       have n2_ := Aside0.mk (blk_below (bkn BK948) hb)
       have n3_ := Aside0.mk (blk_below (bkn BK957) hb)
       have n4_ := Aside0.mk (below_step (bn HB) hb)
       clear HO_3 HO956 BK948 BK957 HB
       have HO_3 := n0_
       have HO956 := n1_
       have BK948 := n2_
       have BK957 := n3_
       have HB := n4_
       clear n0_ n1_ n2_ n3_ n4_
       (try clear hb)
       (try clear hb2)
       (try clear hk)
       (try clear hi)
       refine hK.out _ _ ⟨(blk_cell BK957.out 0).trans rfl, (blk_cell BK957.out 1).trans rfl, (blk_cell BK948.out 0).trans rfl, (blk_cell BK948.out 1).trans rfl⟩ (fun hHeld => ?_)
       clear hK K
       refine norm_ (a' := ?_) ?_ ?_
       rotate_left
       ·show Act.put _ (some 31) _ = _
        simp only [Act.put, List.setIfInBounds_toArray, List.set_cons_zero, List.set_cons_succ, i64_w, i32_w]
        rfl
       refine pz_ 13 (some 32) HT_ ?_
       refine pz_ 14 (some 33) HT_ ?_
       refine done_ (done_of HT_.out (by kernel_rfl)) ?_
       try go_wp2
       go_roundg k1
       case measure => have := HK1.out; omega
       case rel => exact ⟨(x3_1), (wrap64 (x13_1 + 1)), (by first | rfl | (simp; done) | (simp [*]; done)), H', ⟨by have := HK1.out; omega⟩, ⟨onR HO_3⟩, ⟨bkn BK948⟩, ⟨bn HB⟩⟩
     ·rw [if_neg c12] at H
      have c12b0 := decide_eq_false c12
      have c12b1 : decide (t954.length < l0_1.length) = false := decide_eq_false (fun h => c12 (Int.ofNat_lt.mpr h))
      clear c12
      have H' := Aside0.mk H
      clear H
      have hcz38_0 := bc BK948 0
      have hcz38_1 := bc BK948 1
      have hfz38_0 := blk_frozen BK948.out 0
      have hfz38_1 := blk_frozen BK948.out 1
      try go_wp2_with (first | ((with_reducible refine gate_callee (f := 101) rfl ?_); refine gl_ (some 18) Try.func101 #[.agg #[.int .i64 a0_0, .slice A0_1 l0_1.length c0_1], .int .i64 x13_1] ?_; (with_reducible refine (impl_Net_without.calls k1 a0_0 _ _ l0_1 x13_1 t953 t954 _ ?side1 ?side2 A11.out).mono ?_); (case side1 => repeat (first | exact (Kd.C_below HR0_1.out HB.out) | (with_reducible refine Kd.C_alloc ?_ _) | (with_reducible refine Kd.C_drewN ?_ _) | (with_reducible refine Kd.C_drew ?_))); (case side2 => exact HC0_1.out); rintro e w39 ⟨v955, rfl, ho0, hb⟩; refine ⟨_, rfl, ?_⟩; have n0_ := Aside0.mk (Kd.R_below (onR HO_3) hb); have n1_ := Aside0.mk (Kd.R_lower ho0 (below_size (bn HB))); have n2_ := Aside0.mk (blk_below (bkn BK948) hb); have n3_ := Aside0.mk (below_step (bn HB) hb); clear HO_3; clear BK948; clear HB; have HO_3 := n0_; have HO956 := n1_; have BK948 := n2_; have HB := n3_; clear n0_ n1_ n2_ n3_; (try clear hb); (try clear ho0)) | ((with_reducible refine gate_dst (N := 5) rfl ?_); refine box_event ?hg (N := 5) ?hd (cs := #[.int .i64 0, .slice none 0 0]) (t := 34) ?hr ?_; (case hd => rfl); (case hg => rfl); (case hr => first | (go_simp; done) | (go_simp; rfl)); intro gb957 hg w40 hbox hb; have n0_ := Aside0.mk (Kd.R_below (onR HO_3) hb); have n1_ := Aside0.mk (Kd.R_below (onR HO956) hb); have n2_ := Aside0.mk (blk_below (bkn BK948) hb); have n3_ := Aside0.mk (below_step (bn HB) hb); have n4_ := Aside0.mk (hbox); have n5_ := Aside0.mk ((by rw [hg]; exact (below_size (bn HB)) : w.heap.size ≤ gb957)); have n6_ := Aside0.mk ((by rw [hg]; exact (below_size (bn HB)) : w.heap.size ≤ gb957)); have n7_ := Aside0.mk ((by rw [hg]; exact Nat.ne_of_lt (blk_lt (bkn BK948)) : gb948 ≠ gb957)); have n8_ := Aside0.mk ((by rw [hg]; exact Nat.ne_of_gt (blk_lt (bkn BK948)) : gb957 ≠ gb948)); clear HO_3; clear HO956; clear BK948; clear HB; have HO_3 := n0_; have HO956 := n1_; have BK948 := n2_; have HB := n3_; have BK957 := n4_; have GW957 := n5_; have GE957 := n6_; have NB948_957 := n7_; have NB957_948 := n8_; clear n0_ n1_ n2_ n3_ n4_ n5_ n6_ n7_ n8_; clear hb hbox hg; have hnb41 := NB957_948.out; have hnc41 := NB948_957.out; have hcz42_0 := bc BK957 0; have hcz42_1 := bc BK957 1; have hfz42_0 := blk_frozen BK957.out 0; have hfz42_1 := blk_frozen BK957.out 1; obtain ⟨Ao43, co43, eo43⟩ := Kd.R_slice HO956.out; subst eo43))
      have n0_ : Aside0 (Kd.R (Kd.int .i64) 3 ((w40.setCell ⟨gb957, 0, none⟩ (.int .i64 t953)).setCell ⟨gb957, 1, none⟩ (.slice Ao43 t954.length co43)) w.heap.size (fun _ => True) u3 x3_1) := ⟨by (with_reducible repeat (first | apply Kd.R_alloc | apply Kd.R_drewN | apply Kd.R_drew)); exact Kd.R_mono (Kd.R_far (p := ⟨gb957, 1, none⟩) (Kd.R_far (p := ⟨gb957, 0, none⟩) (Kd.R_types HO_3.out BK957.out (by decide)) (fun _ hk => hk.2) (.int .i64 t953)) (fun _ hk => hk.2) (.slice Ao43 t954.length co43)) (fun _ hk => trivial)⟩
      have n1_ : Aside0 (Kd.R k73 73 ((w40.setCell ⟨gb957, 0, none⟩ (.int .i64 t953)).setCell ⟨gb957, 1, none⟩ (.slice Ao43 t954.length co43)) w.heap.size (fun _ => True) (.slice Ao43 t954.length co43) t954) := ⟨by (with_reducible repeat (first | apply Kd.R_alloc | apply Kd.R_drewN | apply Kd.R_drew)); exact Kd.R_mono (Kd.R_far (p := ⟨gb957, 1, none⟩) (Kd.R_far (p := ⟨gb957, 0, none⟩) (Kd.R_types HO956.out BK957.out (by decide)) (fun _ hk => hk.2) (.int .i64 t953)) (fun _ hk => hk.2) (.slice Ao43 t954.length co43)) (fun _ hk => trivial)⟩
      have n2_ : Aside0 (((w40.setCell ⟨gb957, 0, none⟩ (.int .i64 t953)).setCell ⟨gb957, 1, none⟩ (.slice Ao43 t954.length co43)).heap[gb948]? = some (.cells #[.int .i64 a0_0, .slice A0_1 l0_1.length c0_1] 34 (0, 0))) := ⟨bkn BK948⟩
      have n3_ : Aside0 (((w40.setCell ⟨gb957, 0, none⟩ (.int .i64 t953)).setCell ⟨gb957, 1, none⟩ (.slice Ao43 t954.length co43)).heap[gb957]? = some (.cells #[.int .i64 t953, .slice Ao43 t954.length co43] 34 (0, 0))) := ⟨by (with_reducible repeat (first | refine blk_drewN ?_ _ | refine blk_drew ?_ | refine blk_alloc ?_ _)); refine blk_put (cs := #[.int .i64 t953, .slice none 0 0]) ?_ 1 _ rfl; (with_reducible repeat (first | refine blk_drewN ?_ _ | refine blk_drew ?_ | refine blk_alloc ?_ _)); refine blk_put (cs := #[.int .i64 0, .slice none 0 0]) ?_ 0 _ rfl; (with_reducible repeat (first | refine blk_drewN ?_ _ | refine blk_drew ?_ | refine blk_alloc ?_ _)); exact BK957.out⟩
      have n4_ : Aside0 (Below w.heap.size w ((w40.setCell ⟨gb957, 0, none⟩ (.int .i64 t953)).setCell ⟨gb957, 1, none⟩ (.slice Ao43 t954.length co43))) := ⟨bn HB⟩
      (try clear HO_3)
      (try clear HO956)
      (try clear BK948)
      (try clear BK957)
      (try clear HB)
      generalize ((w40.setCell ⟨gb957, 0, none⟩ (.int .i64 t953)).setCell ⟨gb957, 1, none⟩ (.slice Ao43 t954.length co43)) = w44 at n0_ n1_ n2_ n3_ n4_ ⊢
      have HO_3 := n0_
      have HO956 := n1_
      have BK948 := n2_
      have BK957 := n3_
      have HB := n4_
      clear n0_ n1_ n2_ n3_ n4_
      have n0_ := Aside0.mk (Kd.R_drew HO_3.out)
      have n1_ := Aside0.mk (Kd.R_drew HO956.out)
      have n2_ := Aside0.mk (blk_drew BK948.out)
      have n3_ := Aside0.mk (blk_drew BK957.out)
      have n4_ := Aside0.mk (below_drew1 HB.out)
      clear HO_3 HO956 BK948 BK957 HB
      have HO_3 := n0_
      have HO956 := n1_
      have BK948 := n2_
      have BK957 := n3_
      have HB := n4_
      clear n0_ n1_ n2_ n3_ n4_
      refine start_ (n := 15) (S := fun w' => w'.cell? ⟨gb957, 0, none⟩ = some (.int .i64 t953) ∧ w'.cell? ⟨gb957, 1, none⟩ = some (.slice Ao43 t954.length co43) ∧ w'.cell? ⟨gb948, 0, none⟩ = some (.int .i64 a0_0) ∧ w'.cell? ⟨gb948, 1, none⟩ = some (.slice A0_1 l0_1.length c0_1)) (ds := []) #[false, false, false, false, false, false, false, false, false, false, false, false, false, false, false] (by kernel_rfl) rfl rfl ⟨(blk_cell BK957.out 0).trans rfl, (blk_cell BK957.out 1).trans rfl, (blk_cell BK948.out 0).trans rfl, (blk_cell BK948.out 1).trans rfl⟩ (fun hHeld => ?_); refine with_tabW impl_BlockCuts.tab8 impl_BlockCuts.bits8 (fun HT_ HW_ => ?_)
      generalize w44.drew = w45 at HO_3 HO956 BK948 BK957 HB hHeld ⊢
      refine pz_ 0 (some 19) HT_ ?_
      refine pz_ 3 (some 22) HT_ ?_
      refine tz_ 1 (some 20) HT_ HW_ hHeld ?_
      refine pz_ 2 (some 21) HT_ ?_
      refine tz_ 4 (some 23) HT_ HW_ hHeld ?_
      refine pz_ 5 (some 24) HT_ ?_
      refine pz_ 6 (some 25) HT_ ?_
      refine pz_ 7 (some 26) HT_ ?_
      refine pure_ (i := 8) (N := some 27) (v := undef) (a' := ?_) #[true, true, true, true, true, true, true, true, true, false, false, false, false, false, false] rfl rfl (any_of HT_.out (by kernel_rfl)) (fun _ _ _ h => h) (Or.inr ⟨by rfl, rfl⟩) ?_ ?_
      rotate_left
      ·simp only [Act.put, List.setIfInBounds_toArray, List.set_cons_zero, List.set_cons_succ, i64_w, i32_w]
       rfl
      refine pure_ (i := 9) (N := some 28) (v := undef) (a' := ?_) #[true, true, true, true, true, true, true, true, true, true, false, false, false, false, false] rfl rfl (any_of HT_.out (by kernel_rfl)) (fun _ _ _ h => h) (Or.inr ⟨by rfl, rfl⟩) ?_ ?_
      rotate_left
      ·simp only [Act.put, List.setIfInBounds_toArray, List.set_cons_zero, List.set_cons_succ, i64_w, i32_w]
       rfl
      refine pure_ (i := 10) (N := some 29) (v := undef) (a' := ?_) #[true, true, true, true, true, true, true, true, true, true, true, false, false, false, false] rfl rfl (any_of HT_.out (by kernel_rfl)) (fun _ _ _ h => h) (Or.inr ⟨by rfl, rfl⟩) ?_ ?_
      rotate_left
      ·simp only [Act.put, List.setIfInBounds_toArray, List.set_cons_zero, List.set_cons_succ, i64_w, i32_w]
       rfl
      refine pure_ (i := 11) (N := some 30) (v := undef) (a' := ?_) #[true, true, true, true, true, true, true, true, true, true, true, true, false, false, false] rfl rfl (any_of HT_.out (by kernel_rfl)) (fun _ _ _ h => h) (Or.inr ⟨by rfl, rfl⟩) ?_ ?_
      rotate_left
      ·simp only [Act.put, List.setIfInBounds_toArray, List.set_cons_zero, List.set_cons_succ, i64_w, i32_w]
       rfl
      refine pure_ (i := 12) (N := some 31) (v := undef) (a' := ?_) #[true, true, true, true, true, true, true, true, true, true, true, true, true, false, false] rfl rfl (any_of HT_.out (by kernel_rfl)) (fun _ _ _ h => h) (Or.inr ⟨by rfl, rfl⟩) ?_ ?_
      rotate_left
      ·simp only [Act.put, List.setIfInBounds_toArray, List.set_cons_zero, List.set_cons_succ, i64_w, i32_w]
       rfl
      refine pure_ (i := 13) (N := some 32) (v := undef) (a' := ?_) #[true, true, true, true, true, true, true, true, true, true, true, true, true, true, false] rfl rfl (any_of HT_.out (by kernel_rfl)) (fun _ _ _ h => h) (Or.inr ⟨by rfl, rfl⟩) ?_ ?_
      rotate_left
      ·simp only [Act.put, List.setIfInBounds_toArray, List.set_cons_zero, List.set_cons_succ, i64_w, i32_w]
       rfl
      refine pz_ 14 (some 33) HT_ ?_
      refine done_ (done_of HT_.out (by kernel_rfl)) ?_
      try go_wp2
      go_roundg k1
      case measure => have := HK1.out; omega
      case rel => exact ⟨(x3_1), (wrap64 (x13_1 + 1)), (by first | rfl | (simp; done) | (simp [*]; done)), H', ⟨by have := HK1.out; omega⟩, ⟨onR HO_3⟩, ⟨bkn BK948⟩, ⟨bn HB⟩⟩
    ·rw [if_neg c10] at H
     have c10b0 := decide_eq_false c10
     clear c10
     obtain rfl := Option.some.inj H
     go_wp2
     go_ret
     exact ⟨_, by first | rfl | (simp [errW_none, errW_some] <;> rfl) | (simp [*, errW_none, errW_some] <;> rfl), onR HO_3, bn HB⟩
 ·replace c3 := Bool.eq_false_iff.mpr c3
  subst c3
  rw [if_neg (show ¬ (false = true) by decide)] at H
  obtain rfl := Option.some.inj H
  go_enter Try.func59, Try.ntmps59
  go_wp2_with (first | ((with_reducible refine gate_dst (N := 1) rfl ?_); refine box_event ?hg (N := 1) ?hd (cs := #[.int .i64 a0_0, .slice A0_1 l0_1.length c0_1]) (t := 34) ?hr ?_; (case hd => rfl); (case hg => rfl); (case hr => first | (go_simp; done) | (go_simp; rfl)); intro gb948 hg w46 hbox hb; have n0_ := Aside0.mk (below_step (bn HB) hb); have n1_ := Aside0.mk (hbox); have n2_ := Aside0.mk ((by rw [hg]; exact (below_size (bn HB)) : w.heap.size ≤ gb948)); have n3_ := Aside0.mk ((by rw [hg]; exact (below_size (bn HB)) : w.heap.size ≤ gb948)); clear HB; have HB := n0_; have BK948 := n1_; have GW948 := n2_; have GE948 := n3_; clear n0_ n1_ n2_ n3_; clear hb hbox hg) | ((with_reducible refine gate_dst (N := 6) rfl ?_); refine Kd.R_lit (Kd.int .i64) _ 3 ?hg (N := 6) ?hd (xs := ([] : List Int)) (inner := []) (ok := fun _ => True) (okp := fun _ => True) ?hr ?hp (fun _ hk => hk) trivial (Below.refl _ _) (Nat.le_refl _) (by simp) ?_; (case hd => rfl); (case hg => rfl); (case hr => first | (go_simp; done) | (go_simp; rfl)); (case hp => exact (Reps.none _ _)); intro v950 w47 ho48 hb hg_ hnew_; clear hg_ hnew_; (first | rw [← Ny949.out] at ho48 | (simp only [Int.reduceToNat] at ho48; rw [← Ny949.out] at ho48)); have n0_ := Aside0.mk (Kd.R_lower ho48 (below_size (bn HB))); have n1_ := Aside0.mk (blk_below (bkn BK948) hb); have n2_ := Aside0.mk (below_step (bn HB) hb); clear BK948; clear HB; have HO951 := n0_; have BK948 := n1_; have HB := n2_; clear n0_ n1_ n2_; clear hb ho48; have hcz49_0 := bc BK948 0; have hcz49_1 := bc BK948 1; have hfz49_0 := blk_frozen BK948.out 0; have hfz49_1 := blk_frozen BK948.out 1) | ((with_reducible refine gate_callee (f := 91) rfl ?_); refine gl_ (some 8) Try.func91 #[.agg #[.int .i64 a0_0, .slice A0_1 l0_1.length c0_1]] ?_; (with_reducible refine (impl_NetOk.calls k a0_0 _ _ l0_1 false _ ?side1 ?side2 A2.out).mono ?_); (case side1 => repeat (first | exact (Kd.C_below HR0_1.out HB.out) | (with_reducible refine Kd.C_alloc ?_ _) | (with_reducible refine Kd.C_drewN ?_ _) | (with_reducible refine Kd.C_drew ?_))); (case side2 => exact HC0_1.out); rintro e w50 ⟨rfl, hb⟩; refine ⟨_, rfl, ?_⟩; have n0_ := Aside0.mk (Kd.R_below (onR HO951) hb); have n1_ := Aside0.mk (blk_below (bkn BK948) hb); have n2_ := Aside0.mk (below_step (bn HB) hb); clear HO951; clear BK948; clear HB; have HO951 := n0_; have BK948 := n1_; have HB := n2_; clear n0_ n1_ n2_; (try clear hb); (try clear hi)))
  go_ret
  exact ⟨_, by first | rfl | (simp [errW_none, errW_some] <;> rfl) | (simp [*, errW_none, errW_some] <;> rfl), onR HO951, bn HB⟩

end Go.Proofs.Ytdlnnjgjfngccaa.F
