-- Written by oprint.py (wip/tools) over the kit's print program, for this seat.
import Derived.Test.YtdlnnjgjfngccaaF0
import Derived.Test.YtdlnnjgjfngccaaF31
import Derived.Test.YtdlnnjgjfngccaaF8
import Derived.Test.YtdlnnjgjfngccaaF9
namespace Go.Proofs.Ytdlnnjgjfngccaa.F
open Go.RowKit Go.Proofs.YtdlnnjgjfngccaaW.PrintWords Go.Proofs.YtdlnnjgjfngccaaW.PrintLast Go.Proofs.YtdlnnjgjfngccaaW.PrintMore
attribute [local go_sem] max2_int min2_int max_two min_two max_three min_three max_four min_four   -- for this text's walks alone
set_option linter.unusedVariables false
set_option linter.unusedSimpArgs false

/-! ### impl_WayReach: function 68 -/
mutual
def impl_WayReach.j0 : Nat → Int → List Bool → Bool → Int → List (S73) → Option (List Bool)
 | 0, _, _, _, _, _ => none
 | k + 1, x1, x5, x17, x1064000, x1064001 => if x17 = true then (some x5) else ((impl_Net_parts.f k x1064000 x1064001).bind fun t1069 => (impl_WayReach.l0 k x1 x5 t1069 (t1069.length : Int) 0))
def impl_WayReach.l0 : Nat → Int → List Bool → List Int → Int → Int → Option (List Bool)
 | 0, _, _, _, _, _ => none
 | k + 1, x1, x5, x6, x22, x23 => if x23 < x22 then (if 0 ≤ x23 then (if x23 < (x6.length : Int) then (if 0 ≤ x1 then (if x1 < (x6.length : Int) then (if x5.length < 140737488355328 then (impl_WayReach.l0 k x1 (x5 ++ [((rd x6 x23) == (rd x6 x1))]) x6 x22 (wrap64 (x23 + 1))) else (none)) else (none)) else (none)) else (none)) else (none)) else (some x5)
end
def impl_WayReach.f (k : Nat) (a0_0 : Int) (l0_1 : List (S73)) (a1 : Int) : Option (List Bool) := (some (([] : List Bool) : List Bool)).bind fun y1064 => ((impl_NetOk.f k a0_0 l0_1).bind fun t1067 => (if t1067 = true then ((impl_Net_knot.f a0_0 l0_1 a1).bind fun t1068 => (impl_WayReach.j0 k a1 y1064 (!t1068) a0_0 l0_1)) else (impl_WayReach.j0 k a1 y1064 true a0_0 l0_1)))
theorem impl_WayReach.mono_l : ∀ k, (∀ y0 y1 y2 y3 y4, LeO (impl_WayReach.j0 k y0 y1 y2 y3 y4) (impl_WayReach.j0 (k + 1) y0 y1 y2 y3 y4)) ∧ (∀ y0 y1 y2 y3 y4, LeO (impl_WayReach.l0 k y0 y1 y2 y3 y4) (impl_WayReach.l0 (k + 1) y0 y1 y2 y3 y4))
 | 0 => ⟨fun _ _ _ _ _ r h => by simp [impl_WayReach.j0] at h, fun _ _ _ _ _ r h => by simp [impl_WayReach.l0] at h⟩
 | k + 1 => by
  obtain ⟨ih0, ih1⟩ := impl_WayReach.mono_l k
  refine ⟨?_, ?_⟩
  ·intro y0 y1 y2 y3 y4
   unfold impl_WayReach.j0
   have m0_ := @impl_NetOk.mono
   have m1_ := @impl_Net_parts.mono
   exact mo_
  ·intro y0 y1 y2 y3 y4
   unfold impl_WayReach.l0
   have m0_ := @impl_NetOk.mono
   have m1_ := @impl_Net_parts.mono
   exact mo_
theorem impl_WayReach.mono : ∀ a0 a1 a2 k, LeO (impl_WayReach.f k a0 a1 a2) (impl_WayReach.f (k + 1) a0 a1 a2) := by
 intro a0 a1 a2 k
 obtain ⟨ih0, ih1⟩ := impl_WayReach.mono_l k
 unfold impl_WayReach.f
 have m0_ := @impl_NetOk.mono
 have m1_ := @impl_Net_parts.mono
 exact mo_
def impl_WayReach.T8 : Bool × List (List Nat × List Nat) := (true, [([], []), ([], []), ([], []), ([1, 2], [1, 2]), ([3], [3]), ([], []), ([], []), ([5, 6], [5, 6]), ([7], [7]), ([4, 8], [4, 8]), ([9], [9]), ([0, 10], [0, 10]), ([11, 11, 0, 1, 2, 3, 4, 5, 6, 7, 8, 9, 10, 11], [0, 11])])
def impl_WayReach.B8 : List Nat := [0, 0, 0, 6, 14, 0, 0, 96, 224, 510, 1022, 2047, 4095]
theorem impl_WayReach.tab8 : rtab .any (opsOf Try.f68 8) = impl_WayReach.T8 := by kernel_rfl
theorem impl_WayReach.bits8 : waitsOk impl_WayReach.T8.2 impl_WayReach.B8 = true := by kernel_rfl
set_option maxHeartbeats 8000000 in
set_option maxRecDepth 100000 in
theorem impl_WayReach.calls (k : Nat) (a0_0 : Int) (A0_1 : Option Addr) (c0_1 : Nat) (l0_1 : List (S73)) (a1 : Int) (r : List Bool) (w : World) (hr0_1 : Kd.C k73 w A0_1 l0_1.length l0_1) (hc0_1 : l0_1.length ≤ c0_1) (h : impl_WayReach.f k a0_0 l0_1 a1 = some r) :
  Calls Try.prog 68 #[.agg #[.int .i64 a0_0, .slice A0_1 l0_1.length c0_1], .int .i64 a1] w fun e w' => ∃ v0_ : Value, e = .returned (v0_) ∧ Kd.R Kd.bool 4 w' w.heap.size (fun _ => True) v0_ r ∧ Below w.heap.size w w' := by
 have hu34 := Try.underlying34
 have HR0_1 := am hr0_1
 have HC0_1 := am hc0_1
 clear hr0_1 hc0_1
 have HB := am (Below.refl w.heap.size w)
 have H : ((some (([] : List Bool) : List Bool)).bind fun y1064 => ((impl_NetOk.f k a0_0 l0_1).bind fun t1067 => (if t1067 = true then ((impl_Net_knot.f a0_0 l0_1 a1).bind fun t1068 => (impl_WayReach.j0 k a1 y1064 (!t1068) a0_0 l0_1)) else (impl_WayReach.j0 k a1 y1064 true a0_0 l0_1)))) = some r := h
 clear h
 obtain ⟨y1064, hy1064⟩ : ∃ y_ : List Bool, y_ = (([] : List Bool)) := ⟨_, rfl⟩
 replace H : ((impl_NetOk.f k a0_0 l0_1).bind fun t1067 => (if t1067 = true then ((impl_Net_knot.f a0_0 l0_1 a1).bind fun t1068 => (impl_WayReach.j0 k a1 y1064 (!t1068) a0_0 l0_1)) else (impl_WayReach.j0 k a1 y1064 true a0_0 l0_1))) = some r := nh_ hy1064 H
 have Ny1064 := am hy1064
 clear hy1064
 have HC3 := am H
 clear H
 go_enter Try.func68, Try.ntmps68
 go_upto_region 2 with (first | ((with_reducible refine gate_dst (N := 2) rfl ?_); refine be_ 2 #[.int .i64 a0_0, .slice A0_1 l0_1.length c0_1] 34 ?_; intro gb1063 hg w4 hbox hb; have BK1063 := am hbox; have GW1063 := am (ge_ hg HB); have GE1063 := am (ge_ hg HB); replace HB := bs HB hb; clear hb hbox hg) | ((with_reducible refine gate_dst (N := 8) rfl ?_); refine Kd.R_lit Kd.bool _ 4 ?hg (N := 8) ?hd (xs := ([] : List Bool)) (inner := []) (ok := fun _ => True) (okp := fun _ => True) ?hr ?hp (fun _ hk => hk) trivial (Below.refl _ _) (Nat.le_refl _) (by simp) ?_; (case hd => rfl); (case hg => rfl); (case hr => first | (go_simp; done) | (go_simp; rfl)); (case hp => exact (Reps.none _ _)); intro v1065 w5 ho6 hb hg_ hnew_; clear hg_ hnew_; (first | rw [← Ny1064.out] at ho6 | (simp only [Int.reduceToNat] at ho6; rw [← Ny1064.out] at ho6)); have HO1066 := am (Kd.R_lower ho6 (below_size (bn HB))); replace BK1063 := bb BK1063 hb; replace HB := bs HB hb; clear hb ho6))
 (try simp only [Act.put, List.setIfInBounds_toArray, List.set_cons_zero, List.set_cons_succ])
 go_cut [17] (fun v17 wc => ∃ (kq : Nat) (x17_2 : Bool), v17 = .bool x17_2 ∧ Aside0 (impl_WayReach.j0 kq a1 y1064 x17_2 a0_0 l0_1 = some r) ∧ Aside0 (kq ≤ k) ∧ Aside0 (Kd.R Kd.bool 4 wc w.heap.size (fun _ => True) v1065 y1064) ∧ Aside0 (wc.heap[gb1063]? = some (.cells #[.int .i64 a0_0, (.slice A0_1 l0_1.length c0_1)] 34 (0, 0))) ∧ Aside0 (Below w.heap.size w wc))
 case first =>
  have H := HC3.out
  clear HC3
  replace H := Option.bind_eq_some_iff.mp H
  obtain ⟨t1067, A70, H⟩ := H
  (try dsimp only at H)
  have A7 := am A70
  clear A70
  by_cases c8 : t1067 = true
  ·subst c8
   rw [if_pos rfl] at H
   replace H := Option.bind_eq_some_iff.mp H
   obtain ⟨t1068, A90, H⟩ := H
   (try dsimp only at H)
   have A9 := am A90
   clear A90
   have H' := am H
   clear H
   obtain ⟨hcz10_0, hcz10_1, hfz10_0, hfz10_1⟩ := c2 BK1063
   go_wp2_with (first | ((with_reducible refine gate_callee (f := 91) rfl ?_); refine gl_ (some 10) Try.func91 #[.agg #[.int .i64 a0_0, .slice A0_1 l0_1.length c0_1]] ?_; (with_reducible refine (impl_NetOk.calls k a0_0 _ _ l0_1 true _ ?side1 ?side2 A7.out).mono ?_); (case side1 => exact cb HR0_1 HB); (case side2 => exact HC0_1.out); rintro e w11 ⟨rfl, hb⟩; refine ⟨_, rfl, ?_⟩; replace HO1066 := am (Kd.R_below (onR HO1066) hb); replace BK1063 := bb BK1063 hb; replace HB := bs HB hb; (try clear hb); obtain ⟨hcz12_0, hcz12_1, hfz12_0, hfz12_1⟩ := c2 BK1063) | (go_at_call 120; (with_reducible refine (impl_Net_knot.calls a0_0 _ _ l0_1 a1 t1068 _ ?side1 ?side2 A9.out).mono ?_); (case side1 => exact cb HR0_1 HB); (case side2 => exact HC0_1.out); rintro e w13 ⟨rfl, hb⟩; replace HO1066 := am (Kd.R_below (onR HO1066) hb); replace BK1063 := bb BK1063 hb; replace HB := bs HB hb; (try clear hb); (try clear hi)))
   go_meet
   case rel => exact ⟨_, (!t1068), (by first | rfl | (simp; done) | (simp [*]; done)), H', ⟨by first | omega | exact Nat.le_refl _⟩, ⟨onR HO1066⟩, ⟨bkn BK1063⟩, ⟨bn HB⟩⟩
  ·replace c8 := Bool.eq_false_iff.mpr c8
   subst c8
   rw [if_neg (show ¬ (false = true) by decide)] at H
   have H' := am H
   clear H
   obtain ⟨hcz14_0, hcz14_1, hfz14_0, hfz14_1⟩ := c2 BK1063
   go_wp2_with (first | ((with_reducible refine gate_callee (f := 91) rfl ?_); refine gl_ (some 10) Try.func91 #[.agg #[.int .i64 a0_0, .slice A0_1 l0_1.length c0_1]] ?_; (with_reducible refine (impl_NetOk.calls k a0_0 _ _ l0_1 false _ ?side1 ?side2 A7.out).mono ?_); (case side1 => exact cb HR0_1 HB); (case side2 => exact HC0_1.out); rintro e w15 ⟨rfl, hb⟩; refine ⟨_, rfl, ?_⟩; replace HO1066 := am (Kd.R_below (onR HO1066) hb); replace BK1063 := bb BK1063 hb; replace HB := bs HB hb; (try clear hb); (try clear hi)))
   go_meet
   case rel => exact ⟨_, (true), (by first | rfl | (simp; done) | (simp [*]; done)), H', ⟨by first | omega | exact Nat.le_refl _⟩, ⟨onR HO1066⟩, ⟨bkn BK1063⟩, ⟨bn HB⟩⟩
 case rest =>
  clear HC3
  try clear p2
  try clear c6
  try clear c8
  try clear c9
  try clear hcz10_0 hcz10_1 hfz10_0 hfz10_1
  try clear hcz12_0 hcz12_1 hfz12_0 hfz12_1
  try clear hcz14_0 hcz14_1 hfz14_0 hfz14_1
  obtain ⟨kq, x17_2, rfl, HA, HJ2, HO_5, BK1063, HB⟩ := hcut
  cases kq with
  | zero => exact absurd HA.out (by simp [impl_WayReach.j0])
  | succ kj2 =>
   have H := HA.out
   clear HA
   simp only [impl_WayReach.j0] at H
   by_cases c16 : x17_2 = true
   ·subst c16
    rw [if_pos rfl] at H
    obtain rfl := Option.some.inj H
    go_wp2
    go_ret
    exact ⟨_, by first | rfl | (simp [errW_none, errW_some] <;> rfl) | (simp [*, errW_none, errW_some] <;> rfl), onR HO_5, bn HB⟩
   ·replace c16 := Bool.eq_false_iff.mpr c16
    subst c16
    rw [if_neg (show ¬ (false = true) by decide)] at H
    replace H := Option.bind_eq_some_iff.mp H
    obtain ⟨t1069, A170, H⟩ := H
    (try dsimp only at H)
    have A17 := am A170
    clear A170
    have H' := am H
    clear H
    obtain ⟨hcz18_0, hcz18_1, hfz18_0, hfz18_1⟩ := c2 BK1063
    go_wp2_with (first | ((with_reducible refine gate_callee (f := 121) rfl ?_); refine gl_ (some 20) Try.func121 #[.agg #[.int .i64 a0_0, .slice A0_1 l0_1.length c0_1]] ?_; (with_reducible refine (impl_Net_parts.calls kj2 a0_0 _ _ l0_1 t1069 _ ?side1 ?side2 A17.out).mono ?_); (case side1 => exact cb HR0_1 HB); (case side2 => exact HC0_1.out); rintro e w19 ⟨v1070, rfl, ho0, hb⟩; refine ⟨_, rfl, ?_⟩; replace HO_5 := am (Kd.R_below (onR HO_5) hb); have HO1071 := am (Kd.R_lower ho0 (below_size (bn HB))); replace BK1063 := bb BK1063 hb; replace HB := bs HB hb; (try clear hb); (try clear ho0); obtain ⟨Ao20, co20, eo20⟩ := Kd.R_slice HO1071.out; subst eo20))
    go_loopg [5, 23] kj2 (fun kq v5 v23 w' => ∃ (x5_2 : List Bool) (x23_2 : Int), v23 = .int .i64 x23_2 ∧ Aside0 (impl_WayReach.l0 kq a1 x5_2 t1069 (t1069.length : Int) x23_2 = some r) ∧ Aside0 (kq ≤ kj2) ∧ Aside0 (Kd.R Kd.bool 4 w' w.heap.size (fun _ => True) v5 x5_2) ∧ Aside0 (Kd.R (Kd.int .i64) 3 w' w.heap.size (fun _ => True) (.slice Ao20 t1069.length co20) t1069) ∧ Aside0 (w'.heap[gb1063]? = some (.cells #[.int .i64 a0_0, (.slice A0_1 l0_1.length c0_1)] 34 (0, 0))) ∧ Aside0 (Below w.heap.size w w'))
    case atStart => exact ⟨(y1064), (0), (by first | rfl | (simp; done) | (simp [*]; done)), H', ⟨Nat.le_refl _⟩, ⟨onR HO_5⟩, ⟨onR HO1071⟩, ⟨bkn BK1063⟩, ⟨bn HB⟩⟩
    case round =>
     clear H'
     try clear c1
     try clear p2
     try clear c6
     try clear c8
     try clear c9
     try clear c12
     try clear c16
     try clear hcz10_0 hcz10_1 hfz10_0 hfz10_1
     try clear hcz12_0 hcz12_1 hfz12_0 hfz12_1
     try clear hcz14_0 hcz14_1 hfz14_0 hfz14_1
     try clear hcz18_0 hcz18_1 hfz18_0 hfz18_1
     try clear p2
     obtain ⟨x5_2, x23_2, rfl, HA, HK2, HO_5, HO_6, BK1063, HB⟩ := hrel
     cases gk with
     | zero => exact absurd HA.out (by simp [impl_WayReach.l0])
     | succ k2 =>
      have H := HA.out
      clear HA
      simp only [impl_WayReach.l0] at H
      by_cases c21 : x23_2 < (t1069.length : Int)
      ·rw [if_pos c21] at H
       have c21b0 := decide_eq_true c21
       clear c21
       obtain ⟨c22, H⟩ := ig_ H
       have c22b0 := decide_eq_true c22
       clear c22
       obtain ⟨c23, H⟩ := ig_ H
       have c23b0 := decide_eq_true c23
       clear c23
       obtain ⟨c24, H⟩ := ig_ H
       have c24b0 := decide_eq_true c24
       clear c24
       obtain ⟨c25, H⟩ := ig_ H
       have c25b0 := decide_eq_true c25
       clear c25
       obtain ⟨c26, H⟩ := ig_ H
       have LMc26 := am c26
       clear c26
       obtain ⟨y1074, hy1074⟩ : ∃ y_ : List Bool, y_ = (x5_2 ++ [((rd t1069 x23_2) == (rd t1069 a1))]) := ⟨_, rfl⟩
       replace H : (impl_WayReach.l0 k2 a1 y1074 t1069 (t1069.length : Int) (wrap64 (x23_2 + 1))) = some r := nh_ hy1074 H
       have Ny1074 := am hy1074
       clear hy1074
       have H' := am H
       clear H
       try go_wp2
       replace HO_5 := am (Kd.R_drew HO_5.out)
       replace HO_6 := am (Kd.R_drew HO_6.out)
       replace BK1063 := am (blk_drew BK1063.out)
       replace HB := am (below_drew1 HB.out)
       have p1072 : 0 ≤ (x23_2 : Int) := oa
       have q1072 : x23_2 < (t1069.length : Int) := oa
       obtain ⟨ad1072, e1072, hx1072_0⟩ := Kd.at_int (Kd.R_reads' HO_6.out).2.2 x23_2 p1072 q1072
       cases e1072
       replace p1072 := eq_true p1072
       replace q1072 := eq_true q1072
       have p1073 : 0 ≤ (a1 : Int) := oa
       have q1073 : a1 < (t1069.length : Int) := oa
       obtain ⟨ad1073, e1073, hx1073_0⟩ := Kd.at_int (Kd.R_reads' HO_6.out).2.2 a1 p1073 q1073
       obtain rfl : ad1072 = ad1073 := (by injection e1073)
       replace p1073 := eq_true p1073
       replace q1073 := eq_true q1073
       refine start_ (n := 13) (S := fun w' => w'.cell? (ad1072.add (x23_2).toNat) = some (.int .i64 (rd t1069 x23_2)) ∧ w'.cell? (ad1072.add (a1).toNat) = some (.int .i64 (rd t1069 a1))) (ds := [10, 11]) #[false, false, false, false, false, false, false, false, false, false, false, false, false] (by kernel_rfl) rfl rfl ⟨hx1072_0, hx1073_0⟩ (fun hHeld => ?_); refine with_tabW impl_WayReach.tab8 impl_WayReach.bits8 (fun HT_ HW_ => ?_)
       generalize wr.drew = w27 at HO_5 HO_6 BK1063 HB hx1072_0 hx1073_0 hHeld ⊢
       refine pz_ 0 (some 26) HT_ ?_
       refine pz_ 1 (some 27) HT_ ?_
       refine pz_ 2 (some 28) HT_ ?_
       refine pz_ 3 (some 29) HT_ ?_
       refine pz_ 5 (some 31) HT_ ?_
       refine pz_ 6 (some 32) HT_ ?_
       refine pz_ 7 (some 33) HT_ ?_
       refine tz_ 4 (some 30) HT_ HW_ hHeld ?_
       refine tz_ 8 (some 34) HT_ HW_ hHeld ?_
       refine pz_ 9 (some 35) HT_ ?_
       refine last_ (i := 10) (N := some 36) #[true, true, true, true, true, true, true, true, true, true, true, false, false] rfl rfl (one_of HT_.out (by kernel_rfl)) (by decide) (fun K hK => ?_)
       refine value_ (w1 := ?_) (v := ?_) (by rfl) rfl ?_ ?_
       rotate_left 2
       ·go_simp
        constructor
        ·rfl
        ·rfl
       refine hK.out _ _ ?_
       clear hK K
       refine nz_ 36 ?_
       refine last_ (i := 11) (N := some 37) #[true, true, true, true, true, true, true, true, true, true, true, true, false] rfl rfl (one_of HT_.out (by kernel_rfl)) (by decide) (fun K hK => ?_)
       refine Kd.R_append_step Kd.bool (w0 := w) w.heap.size (by rfl) (.tmp 26) (.tmp 36) 69 4 (.bool false) 1 rfl Try.underlying69 info4 rfl (by decide) (by omega) u5 x5_2 ((rd t1069 x23_2) == (rd t1069 a1)) [.bool ((rd t1069 x23_2) == (rd t1069 a1))] (fun _ => True) (fun _ => False) rfl rfl ?aP (fun _ hk => hk.elim) ?aF ?aO ?aB ?aS ?aL ?_
       (case aP => exact rfl)
       (case aB => exact (bn HB))
       (case aF => exact (fun _ _ => trivial))
       (case aO => exact (onR HO_5))
       (case aS => exact (below_size (bn HB)))
       (case aL => have := LMc26.out; omega)
       intro v1075 w28 ho hb hg hat
       rw [← Ny1074.out] at ho
       have n0_ := am (Kd.R_over' (onR HO_6) (Kd.R_typed (onR HO_5)) (by decide) hg)
       have n1_ := am (blk_grown (bkn BK1063) hg (Kd.R_ne HO_5.out BK1063.out (by decide)))
       have n2_ := am hb
       have n3_ := am ho
       clear HO_6 BK1063 HB HO_5
       have HO_6 := n0_
       have BK1063 := n1_
       have HB := n2_
       have HO1076 := n3_
       clear n0_ n1_ n2_ n3_ ho hb hg hat
       refine hK.out _ _ ?_
       clear hK K
       refine nz_ 37 ?_
       refine pz_ 12 (some 5) HT_ ?_
       refine done_ (done_of HT_.out (by kernel_rfl)) ?_
       try go_wp2
       go_roundg k2
       case measure => have := HJ2.out; have := HK2.out; omega
       case rel => exact ⟨(y1074), (wrap64 (x23_2 + 1)), (by first | rfl | (simp; done) | (simp [*]; done)), H', ⟨by have := HJ2.out; have := HK2.out; omega⟩, ⟨onR HO1076⟩, ⟨onR HO_6⟩, ⟨bkn BK1063⟩, ⟨bn HB⟩⟩
      ·rw [if_neg c21] at H
       have c21b0 := decide_eq_false c21
       clear c21
       obtain rfl := Option.some.inj H
       go_wp2
       go_ret
       exact ⟨_, by first | rfl | (simp [errW_none, errW_some] <;> rfl) | (simp [*, errW_none, errW_some] <;> rfl), onR HO_5, bn HB⟩

end Go.Proofs.Ytdlnnjgjfngccaa.F
