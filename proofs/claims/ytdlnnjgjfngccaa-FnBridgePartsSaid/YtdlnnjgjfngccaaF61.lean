-- Written by oprint.py (wip/tools) over the kit's print program, for this seat.
import Derived.Test.YtdlnnjgjfngccaaF0
import Derived.Test.YtdlnnjgjfngccaaF14
import Derived.Test.YtdlnnjgjfngccaaF28
namespace Go.Proofs.Ytdlnnjgjfngccaa.F
open Go.RowKit Go.Proofs.YtdlnnjgjfngccaaW.PrintWords Go.Proofs.YtdlnnjgjfngccaaW.PrintLast Go.Proofs.YtdlnnjgjfngccaaW.PrintMore
attribute [local go_sem] max2_int min2_int max_two min_two max_three min_three max_four min_four   -- for this text's walks alone
set_option linter.unusedVariables false
set_option linter.unusedSimpArgs false

/-! ### spec_WayParts: function 124 -/
mutual
def spec_WayParts.l0 : Nat → List Int → Int → Int → List (S73) → Option (List Int)
 | 0, _, _, _, _ => none
 | k + 1, x3, x4, x909000, x909001 => if x4 < x909000 then ((spec_WayReach.f k x909000 x909001 x4).bind fun t913 => (spec_WayParts.l1 k x3 x4 t913 0 x909000 x909001)) else (some x3)
def spec_WayParts.l1 : Nat → List Int → Int → List Bool → Int → Int → List (S73) → Option (List Int)
 | 0, _, _, _, _, _, _ => none
 | k + 1, x3, x4, x5, x6, x909000, x909001 => if 0 ≤ x6 then (if x6 < (x5.length : Int) then (if rdOf false x5 x6 = true then (if x3.length < 17592186044416 then (spec_WayParts.l0 k (x3 ++ [x6]) (wrap64 (x4 + 1)) x909000 x909001) else (none)) else (spec_WayParts.l1 k x3 x4 x5 (wrap64 (x6 + 1)) x909000 x909001)) else (none)) else (none)
end
def spec_WayParts.f (k : Nat) (a0_0 : Int) (l0_1 : List (S73)) : Option (List Int) := (some (([] : List Int) : List Int)).bind fun y909 => ((spec_NetOk.f k a0_0 l0_1).bind fun t912 => (if t912 = true then (spec_WayParts.l0 k y909 0 a0_0 l0_1) else (some y909)))
theorem spec_WayParts.mono_l : ∀ k, (∀ y0 y1 y2 y3, LeO (spec_WayParts.l0 k y0 y1 y2 y3) (spec_WayParts.l0 (k + 1) y0 y1 y2 y3)) ∧ (∀ y0 y1 y2 y3 y4 y5, LeO (spec_WayParts.l1 k y0 y1 y2 y3 y4 y5) (spec_WayParts.l1 (k + 1) y0 y1 y2 y3 y4 y5))
 | 0 => ⟨fun _ _ _ _ r h => by simp [spec_WayParts.l0] at h, fun _ _ _ _ _ _ r h => by simp [spec_WayParts.l1] at h⟩
 | k + 1 => by
  obtain ⟨ih0, ih1⟩ := spec_WayParts.mono_l k
  refine ⟨?_, ?_⟩
  ·intro y0 y1 y2 y3
   unfold spec_WayParts.l0
   have m0_ := @spec_NetOk.mono
   have m1_ := @spec_WayReach.mono
   exact mo_
  ·intro y0 y1 y2 y3 y4 y5
   unfold spec_WayParts.l1
   have m0_ := @spec_NetOk.mono
   have m1_ := @spec_WayReach.mono
   exact mo_
theorem spec_WayParts.mono : ∀ a0 a1 k, LeO (spec_WayParts.f k a0 a1) (spec_WayParts.f (k + 1) a0 a1) := by
 intro a0 a1 k
 obtain ⟨ih0, ih1⟩ := spec_WayParts.mono_l k
 unfold spec_WayParts.f
 have m0_ := @spec_NetOk.mono
 have m1_ := @spec_WayReach.mono
 exact mo_
set_option maxHeartbeats 8000000 in
set_option maxRecDepth 100000 in
theorem spec_WayParts.calls (k : Nat) (a0_0 : Int) (A0_1 : Option Addr) (c0_1 : Nat) (l0_1 : List (S73)) (r : List Int) (w : World) (hr0_1 : Kd.C k73 w A0_1 l0_1.length l0_1) (hc0_1 : l0_1.length ≤ c0_1) (h : spec_WayParts.f k a0_0 l0_1 = some r) :
  Calls Try.prog 124 #[.agg #[.int .i64 a0_0, .slice A0_1 l0_1.length c0_1]] w fun e w' => ∃ v0_ : Value, e = .returned (v0_) ∧ Kd.R (Kd.int .i64) 3 w' w.heap.size (fun _ => True) v0_ r ∧ Below w.heap.size w w' := by
 have hu34 := Try.underlying34
 have HR0_1 := am hr0_1
 have HC0_1 := am hc0_1
 clear hr0_1 hc0_1
 have HB := am (Below.refl w.heap.size w)
 have H : ((some (([] : List Int) : List Int)).bind fun y909 => ((spec_NetOk.f k a0_0 l0_1).bind fun t912 => (if t912 = true then (spec_WayParts.l0 k y909 0 a0_0 l0_1) else (some y909)))) = some r := h
 clear h
 obtain ⟨y909, hy909⟩ : ∃ y_ : List Int, y_ = (([] : List Int)) := ⟨_, rfl⟩
 replace H : ((spec_NetOk.f k a0_0 l0_1).bind fun t912 => (if t912 = true then (spec_WayParts.l0 k y909 0 a0_0 l0_1) else (some y909))) = some r := nh_ hy909 H
 have Ny909 := am hy909
 clear hy909
 replace H := Option.bind_eq_some_iff.mp H
 obtain ⟨t912, A20, H⟩ := H
 (try dsimp only at H)
 have A2 := am A20
 clear A20
 by_cases c3 : t912 = true
 ·subst c3
  rw [if_pos rfl] at H
  have H' := am H
  clear H
  go_enter Try.func124, Try.ntmps124
  go_wp2_with (first | ((with_reducible refine gate_dst (N := 1) rfl ?_); refine be_ 1 #[.int .i64 a0_0, .slice A0_1 l0_1.length c0_1] 34 ?_; intro gb908 hg w4 hbox hb; have BK908 := am hbox; have GW908 := am (ge_ hg HB); have GE908 := am (ge_ hg HB); replace HB := bs HB hb; clear hb hbox hg) | ((with_reducible refine gate_dst (N := 7) rfl ?_); refine Kd.R_lit (Kd.int .i64) _ 3 ?hg (N := 7) ?hd (xs := ([] : List Int)) (inner := []) (ok := fun _ => True) (okp := fun _ => True) ?hr ?hp (fun _ hk => hk) trivial (Below.refl _ _) (Nat.le_refl _) (by simp) ?_; (case hd => rfl); (case hg => rfl); (case hr => first | (go_simp; done) | (go_simp; rfl)); (case hp => exact (Reps.none _ _)); intro v910 w5 ho6 hb hg_ hnew_; clear hg_ hnew_; (first | rw [← Ny909.out] at ho6 | (simp only [Int.reduceToNat] at ho6; rw [← Ny909.out] at ho6)); have HO911 := am (Kd.R_lower ho6 (below_size (bn HB))); replace BK908 := bb BK908 hb; replace HB := bs HB hb; clear hb ho6; obtain ⟨hcz7_0, hcz7_1, hfz7_0, hfz7_1⟩ := c2 BK908) | ((with_reducible refine gate_callee (f := 66) rfl ?_); refine gl_ (some 9) Try.func66 #[.agg #[.int .i64 a0_0, .slice A0_1 l0_1.length c0_1]] ?_; (with_reducible refine (spec_NetOk.calls k a0_0 _ _ l0_1 true _ ?side1 ?side2 A2.out).mono ?_); (case side1 => exact cb HR0_1 HB); (case side2 => exact HC0_1.out); rintro e w8 ⟨rfl, hb⟩; refine ⟨_, rfl, ?_⟩; replace HO911 := am (Kd.R_below (onR HO911) hb); replace BK908 := bb BK908 hb; replace HB := bs HB hb; (try clear hb); (try clear hi)))
  go_loopg [3, 4] k (fun kq v3 v4 w' => ∃ (x3_1 : List Int) (x4_1 : Int), v4 = .int .i64 x4_1 ∧ Aside0 (spec_WayParts.l0 kq x3_1 x4_1 a0_0 l0_1 = some r) ∧ Aside0 (kq ≤ k) ∧ Aside0 (Kd.R (Kd.int .i64) 3 w' w.heap.size (fun _ => True) v3 x3_1) ∧ Aside0 (w'.heap[gb908]? = some (.cells #[.int .i64 a0_0, (.slice A0_1 l0_1.length c0_1)] 34 (0, 0))) ∧ Aside0 (Below w.heap.size w w'))
  case atStart => exact ⟨(y909), (0), (by first | rfl | (simp; done) | (simp [*]; done)), H', ⟨Nat.le_refl _⟩, ⟨onR HO911⟩, ⟨bkn BK908⟩, ⟨bn HB⟩⟩
  case round =>
   clear H'
   try clear c1
   try clear p2
   try clear c3
   try clear c6
   try clear hcz7_0 hcz7_1 hfz7_0 hfz7_1
   obtain ⟨x3_1, x4_1, rfl, HA, HK1, HO_3, BK908, HB⟩ := hrel
   cases gk with
   | zero => exact absurd HA.out (by simp [spec_WayParts.l0])
   | succ k1 =>
    have H := HA.out
    clear HA
    simp only [spec_WayParts.l0] at H
    by_cases c9 : x4_1 < a0_0
    ·rw [if_pos c9] at H
     have c9b0 := decide_eq_true c9
     clear c9
     replace H := Option.bind_eq_some_iff.mp H
     obtain ⟨t913, A100, H⟩ := H
     (try dsimp only at H)
     have A10 := am A100
     clear A100
     have H' := am H
     clear H
     obtain ⟨hcz11_0, hcz11_1, hfz11_0, hfz11_1⟩ := c2 BK908
     go_wp2_with (first | ((with_reducible refine gate_callee (f := 97) rfl ?_); refine gl_ (some 20) Try.func97 #[.agg #[.int .i64 a0_0, .slice A0_1 l0_1.length c0_1], .int .i64 x4_1] ?_; (with_reducible refine (spec_WayReach.calls k1 a0_0 _ _ l0_1 x4_1 t913 _ ?side1 ?side2 A10.out).mono ?_); (case side1 => exact cb HR0_1 HB); (case side2 => exact HC0_1.out); rintro e w12 ⟨v914, rfl, ho0, hb⟩; refine ⟨_, rfl, ?_⟩; replace HO_3 := am (Kd.R_below (onR HO_3) hb); have HO915 := am (Kd.R_lower ho0 (below_size (bn HB))); replace BK908 := bb BK908 hb; replace HB := bs HB hb; (try clear hb); (try clear ho0)))
     go_loopg [6] k1 (fun kq v6 w' => ∃ (x6_2 : Int), v6 = .int .i64 x6_2 ∧ Aside0 (spec_WayParts.l1 kq x3_1 x4_1 t913 x6_2 a0_0 l0_1 = some r) ∧ Aside0 (kq ≤ k1) ∧ Aside0 (Kd.R (Kd.int .i64) 3 w' w.heap.size (fun _ => True) u3 x3_1) ∧ Aside0 (Kd.R Kd.bool 4 w' w.heap.size (fun _ => True) v914 t913) ∧ Aside0 (w'.heap[gb908]? = some (.cells #[.int .i64 a0_0, (.slice A0_1 l0_1.length c0_1)] 34 (0, 0))) ∧ Aside0 (Below w.heap.size w w'))
     case atStart => exact ⟨(0), (by first | rfl | (simp; done) | (simp [*]; done)), H', ⟨Nat.le_refl _⟩, ⟨onR HO_3⟩, ⟨onR HO915⟩, ⟨bkn BK908⟩, ⟨bn HB⟩⟩
     case round =>
      clear H'
      try clear c1
      try clear p2
      try clear c3
      try clear c6
      try clear c9
      try clear c9b0
      try clear c12
      try clear hcz11_0 hcz11_1 hfz11_0 hfz11_1
      try clear hcz7_0 hcz7_1 hfz7_0 hfz7_1
      try clear p2
      obtain ⟨x6_2, rfl, HA, HK2, HO_3, HO_5, BK908, HB⟩ := hrel
      cases gk with
      | zero => exact absurd HA.out (by simp [spec_WayParts.l1])
      | succ k2 =>
       have H := HA.out
       clear HA
       simp only [spec_WayParts.l1] at H
       obtain ⟨c13, H⟩ := ig_ H
       have c13b0 := decide_eq_true c13
       clear c13
       obtain ⟨c14, H⟩ := ig_ H
       have c14b0 := decide_eq_true c14
       clear c14
       obtain ⟨bq15, hbq15⟩ : ∃ b_ : Bool, b_ = (rdOf false t913 x6_2) := ⟨_, rfl⟩
       replace H : (if bq15 = true then (if x3_1.length < 17592186044416 then (spec_WayParts.l0 k2 (x3_1 ++ [x6_2]) (wrap64 (x4_1 + 1)) a0_0 l0_1) else (none)) else (spec_WayParts.l1 k2 x3_1 x4_1 t913 (wrap64 (x6_2 + 1)) a0_0 l0_1)) = some r := by rw [← hbq15] at H; exact H
       have Nbq15 := am hbq15
       clear hbq15
       by_cases c16 : bq15 = true
       ·subst c16
        rw [if_pos rfl] at H
        obtain ⟨c17, H⟩ := ig_ H
        have LMc17 := am c17
        clear c17
        obtain ⟨y917, hy917⟩ : ∃ y_ : List Int, y_ = (x3_1 ++ [x6_2]) := ⟨_, rfl⟩
        replace H : (spec_WayParts.l0 k2 y917 (wrap64 (x4_1 + 1)) a0_0 l0_1) = some r := nh_ hy917 H
        have Ny917 := am hy917
        clear hy917
        have H' := am H
        clear H
        obtain ⟨Ao18, co18, eo18⟩ := Kd.R_slice HO_5.out
        subst eo18
        have p916 : 0 ≤ (x6_2 : Int) := oa
        have q916 : x6_2 < (t913.length : Int) := oa
        obtain ⟨ad916, e916, hx916_0⟩ := Kd.at_bool (Kd.R_reads' HO_5.out).2.2 x6_2 p916 q916
        (try rw [← Nbq15.out] at hx916_0)
        cases e916
        replace p916 := eq_true p916
        replace q916 := eq_true q916
        go_wp2_with (first | ((with_reducible refine gate_builtin (b := .append) (xs := #[.tmp 28, .tmp 30]) rfl ?_); at_builtin; refine Kd.R_append (Kd.int .i64) (w0 := w) w.heap.size rfl (.tmp 28) (.tmp 30) 40 3 (.int .i64 0) 8 rfl Try.underlying40 info3 rfl (by decide) (by omega) u3 x3_1 x6_2 [.int .i64 x6_2] (fun _ => True) (fun _ => False) rfl rfl ?aP (fun _ hk => hk.elim) ?aF ?aO ?aB ?aS ?aL ?_; (case aP => exact rfl); (case aB => exact (bn HB)); (case aF => exact (fun _ _ => trivial)); (case aO => exact (onR HO_3)); (case aS => exact (below_size (bn HB))); (case aL => have := LMc17.out; omega); intro v918 w19 ho hb hg hat; rw [← Ny917.out] at ho; replace HO_5 := am (Kd.R_over' (onR HO_5) (Kd.R_typed (onR HO_3)) (by decide) hg); replace BK908 := am (blk_grown (bkn BK908) hg (Kd.R_ne HO_3.out BK908.out (by decide))); replace HB := am hb; have HO919 := am ho; clear HO_3; clear ho hb hg hat))
        go_roundg k2
        case measure => have := HK1.out; have := HK2.out; omega
        case rel => exact ⟨(y917), (wrap64 (x4_1 + 1)), (by first | rfl | (simp; done) | (simp [*]; done)), H', ⟨by have := HK1.out; have := HK2.out; omega⟩, ⟨onR HO919⟩, ⟨bkn BK908⟩, ⟨bn HB⟩⟩
       ·replace c16 := Bool.eq_false_iff.mpr c16
        subst c16
        rw [if_neg (show ¬ (false = true) by decide)] at H
        have H' := am H
        clear H
        obtain ⟨Ao20, co20, eo20⟩ := Kd.R_slice HO_5.out
        subst eo20
        have p916 : 0 ≤ (x6_2 : Int) := oa
        have q916 : x6_2 < (t913.length : Int) := oa
        obtain ⟨ad916, e916, hx916_0⟩ := Kd.at_bool (Kd.R_reads' HO_5.out).2.2 x6_2 p916 q916
        (try rw [← Nbq15.out] at hx916_0)
        cases e916
        replace p916 := eq_true p916
        replace q916 := eq_true q916
        go_wp2
        go_roundg k2
        case measure => have := HK1.out; have := HK2.out; omega
        case rel => exact ⟨(wrap64 (x6_2 + 1)), (by first | rfl | (simp; done) | (simp [*]; done)), H', ⟨by have := HK1.out; have := HK2.out; omega⟩, ⟨onR HO_3⟩, ⟨onR HO_5⟩, ⟨bkn BK908⟩, ⟨bn HB⟩⟩
    ·rw [if_neg c9] at H
     have c9b0 := decide_eq_false c9
     clear c9
     obtain rfl := Option.some.inj H
     obtain ⟨hcz21_0, hcz21_1, hfz21_0, hfz21_1⟩ := c2 BK908
     go_wp2
     go_ret
     exact ⟨_, by first | rfl | (simp [errW_none, errW_some] <;> rfl) | (simp [*, errW_none, errW_some] <;> rfl), onR HO_3, bn HB⟩
 ·replace c3 := Bool.eq_false_iff.mpr c3
  subst c3
  rw [if_neg (show ¬ (false = true) by decide)] at H
  obtain rfl := Option.some.inj H
  go_enter Try.func124, Try.ntmps124
  go_wp2_with (first | ((with_reducible refine gate_dst (N := 1) rfl ?_); refine be_ 1 #[.int .i64 a0_0, .slice A0_1 l0_1.length c0_1] 34 ?_; intro gb908 hg w22 hbox hb; have BK908 := am hbox; have GW908 := am (ge_ hg HB); have GE908 := am (ge_ hg HB); replace HB := bs HB hb; clear hb hbox hg) | ((with_reducible refine gate_dst (N := 7) rfl ?_); refine Kd.R_lit (Kd.int .i64) _ 3 ?hg (N := 7) ?hd (xs := ([] : List Int)) (inner := []) (ok := fun _ => True) (okp := fun _ => True) ?hr ?hp (fun _ hk => hk) trivial (Below.refl _ _) (Nat.le_refl _) (by simp) ?_; (case hd => rfl); (case hg => rfl); (case hr => first | (go_simp; done) | (go_simp; rfl)); (case hp => exact (Reps.none _ _)); intro v910 w23 ho24 hb hg_ hnew_; clear hg_ hnew_; (first | rw [← Ny909.out] at ho24 | (simp only [Int.reduceToNat] at ho24; rw [← Ny909.out] at ho24)); have HO911 := am (Kd.R_lower ho24 (below_size (bn HB))); replace BK908 := bb BK908 hb; replace HB := bs HB hb; clear hb ho24; obtain ⟨hcz25_0, hcz25_1, hfz25_0, hfz25_1⟩ := c2 BK908) | ((with_reducible refine gate_callee (f := 66) rfl ?_); refine gl_ (some 9) Try.func66 #[.agg #[.int .i64 a0_0, .slice A0_1 l0_1.length c0_1]] ?_; (with_reducible refine (spec_NetOk.calls k a0_0 _ _ l0_1 false _ ?side1 ?side2 A2.out).mono ?_); (case side1 => exact cb HR0_1 HB); (case side2 => exact HC0_1.out); rintro e w26 ⟨rfl, hb⟩; refine ⟨_, rfl, ?_⟩; replace HO911 := am (Kd.R_below (onR HO911) hb); replace BK908 := bb BK908 hb; replace HB := bs HB hb; (try clear hb); (try clear hi)))
  go_ret
  exact ⟨_, by first | rfl | (simp [errW_none, errW_some] <;> rfl) | (simp [*, errW_none, errW_some] <;> rfl), onR HO911, bn HB⟩

/-! ### spec_WayCount: function 115 -/
def spec_WayCount.l0 : Nat → List Int → Int → Int → Option (Int)
 | 0, _, _, _ => none
 | k + 1, x3, x4, x5 => if x5 < (x3.length : Int) then (if 0 ≤ x5 then (if (rd x3 x5) = x5 then (spec_WayCount.l0 k x3 (wrap64 (x4 + 1)) (wrap64 (x5 + 1))) else (spec_WayCount.l0 k x3 x4 (wrap64 (x5 + 1)))) else (none)) else (some x4)
def spec_WayCount.f (k : Nat) (a0_0 : Int) (l0_1 : List (S73)) : Option (Int) := (spec_NetOk.f k a0_0 l0_1).bind fun t921 => (if t921 = true then ((spec_WayParts.f k a0_0 l0_1).bind fun t922 => (spec_WayCount.l0 k t922 0 0)) else (some (-1)))
theorem spec_WayCount.mono_l : ∀ k, (∀ y0 y1 y2, LeO (spec_WayCount.l0 k y0 y1 y2) (spec_WayCount.l0 (k + 1) y0 y1 y2))
 | 0 => fun _ _ _ r h => by simp [spec_WayCount.l0] at h
 | k + 1 => by
  have ih0 := spec_WayCount.mono_l k
  ·intro y0 y1 y2
   unfold spec_WayCount.l0
   have m0_ := @spec_NetOk.mono
   have m1_ := @spec_WayParts.mono
   exact mo_
theorem spec_WayCount.mono : ∀ a0 a1 k, LeO (spec_WayCount.f k a0 a1) (spec_WayCount.f (k + 1) a0 a1) := by
 intro a0 a1 k
 have ih0 := spec_WayCount.mono_l k
 unfold spec_WayCount.f
 have m0_ := @spec_NetOk.mono
 have m1_ := @spec_WayParts.mono
 exact mo_
set_option maxHeartbeats 8000000 in
set_option maxRecDepth 100000 in
theorem spec_WayCount.calls (k : Nat) (a0_0 : Int) (A0_1 : Option Addr) (c0_1 : Nat) (l0_1 : List (S73)) (r : Int) (w : World) (hr0_1 : Kd.C k73 w A0_1 l0_1.length l0_1) (hc0_1 : l0_1.length ≤ c0_1) (h : spec_WayCount.f k a0_0 l0_1 = some r) :
  Calls Try.prog 115 #[.agg #[.int .i64 a0_0, .slice A0_1 l0_1.length c0_1]] w fun e w' => e = .returned (.int .i64 r) ∧ Below w.heap.size w w' := by
 have hu34 := Try.underlying34
 have HR0_1 := am hr0_1
 have HC0_1 := am hc0_1
 clear hr0_1 hc0_1
 have HB := am (Below.refl w.heap.size w)
 have H : ((spec_NetOk.f k a0_0 l0_1).bind fun t921 => (if t921 = true then ((spec_WayParts.f k a0_0 l0_1).bind fun t922 => (spec_WayCount.l0 k t922 0 0)) else (some (-1)))) = some r := h
 clear h
 replace H := Option.bind_eq_some_iff.mp H
 obtain ⟨t921, A20, H⟩ := H
 (try dsimp only at H)
 have A2 := am A20
 clear A20
 by_cases c3 : t921 = true
 ·subst c3
  rw [if_pos rfl] at H
  replace H := Option.bind_eq_some_iff.mp H
  obtain ⟨t922, A40, H⟩ := H
  (try dsimp only at H)
  have A4 := am A40
  clear A40
  have H' := am H
  clear H
  go_enter Try.func115, Try.ntmps115
  go_wp2_with (first | ((with_reducible refine gate_dst (N := 1) rfl ?_); refine be_ 1 #[.int .i64 a0_0, .slice A0_1 l0_1.length c0_1] 34 ?_; intro gb920 hg w5 hbox hb; have BK920 := am hbox; have GW920 := am (ge_ hg HB); have GE920 := am (ge_ hg HB); replace HB := bs HB hb; clear hb hbox hg; obtain ⟨hcz6_0, hcz6_1, hfz6_0, hfz6_1⟩ := c2 BK920) | ((with_reducible refine gate_callee (f := 66) rfl ?_); refine gl_ (some 7) Try.func66 #[.agg #[.int .i64 a0_0, .slice A0_1 l0_1.length c0_1]] ?_; (with_reducible refine (spec_NetOk.calls k a0_0 _ _ l0_1 true _ ?side1 ?side2 A2.out).mono ?_); (case side1 => exact cb HR0_1 HB); (case side2 => exact HC0_1.out); rintro e w7 ⟨rfl, hb⟩; refine ⟨_, rfl, ?_⟩; replace BK920 := bb BK920 hb; replace HB := bs HB hb; (try clear hb); obtain ⟨hcz8_0, hcz8_1, hfz8_0, hfz8_1⟩ := c2 BK920) | ((with_reducible refine gate_callee (f := 124) rfl ?_); refine gl_ (some 10) Try.func124 #[.agg #[.int .i64 a0_0, .slice A0_1 l0_1.length c0_1]] ?_; (with_reducible refine (spec_WayParts.calls k a0_0 _ _ l0_1 t922 _ ?side1 ?side2 A4.out).mono ?_); (case side1 => exact cb HR0_1 HB); (case side2 => exact HC0_1.out); rintro e w9 ⟨v923, rfl, ho0, hb⟩; refine ⟨_, rfl, ?_⟩; have HO924 := am (Kd.R_lower ho0 (below_size (bn HB))); replace BK920 := bb BK920 hb; replace HB := bs HB hb; (try clear hb); (try clear ho0)))
  go_loopg [4, 5] k (fun kq v4 v5 w' => ∃ (x4_1 : Int) (x5_1 : Int), v4 = .int .i64 x4_1 ∧ v5 = .int .i64 x5_1 ∧ Aside0 (spec_WayCount.l0 kq t922 x4_1 x5_1 = some r) ∧ Aside0 (kq ≤ k) ∧ Aside0 (Kd.R (Kd.int .i64) 3 w' w.heap.size (fun _ => True) v923 t922) ∧ Aside0 (w'.heap[gb920]? = some (.cells #[.int .i64 a0_0, (.slice A0_1 l0_1.length c0_1)] 34 (0, 0))) ∧ Aside0 (Below w.heap.size w w'))
  case atStart => exact ⟨(0), (0), (by first | rfl | (simp; done) | (simp [*]; done)), (by first | rfl | (simp; done) | (simp [*]; done)), H', ⟨Nat.le_refl _⟩, ⟨onR HO924⟩, ⟨bkn BK920⟩, ⟨bn HB⟩⟩
  case round =>
   clear H'
   try clear c1
   try clear p2
   try clear c3
   try clear c6
   try clear hcz6_0 hcz6_1 hfz6_0 hfz6_1
   try clear hcz8_0 hcz8_1 hfz8_0 hfz8_1
   obtain ⟨x4_1, x5_1, rfl, rfl, HA, HK1, HO_3, BK920, HB⟩ := hrel
   cases gk with
   | zero => exact absurd HA.out (by simp [spec_WayCount.l0])
   | succ k1 =>
    have H := HA.out
    clear HA
    simp only [spec_WayCount.l0] at H
    by_cases c10 : x5_1 < (t922.length : Int)
    ·rw [if_pos c10] at H
     have c10b0 := decide_eq_true c10
     clear c10
     obtain ⟨c11, H⟩ := ig_ H
     have c11b0 := decide_eq_true c11
     clear c11
     by_cases c12 : (rd t922 x5_1) = x5_1
     ·rw [if_pos c12] at H
      have c12b0 : ((rd t922 x5_1) == x5_1) = true := beq_iff_eq.mpr c12
      have c12b1 : ((rd t922 x5_1) != x5_1) = false := bne_eq_false_iff_eq.mpr c12
      clear c12
      have H' := am H
      clear H
      obtain ⟨Ao13, co13, eo13⟩ := Kd.R_slice HO_3.out
      subst eo13
      have p925 : 0 ≤ (x5_1 : Int) := oa
      have q925 : x5_1 < (t922.length : Int) := oa
      obtain ⟨ad925, e925, hx925_0⟩ := Kd.at_int (Kd.R_reads' HO_3.out).2.2 x5_1 p925 q925
      cases e925
      replace p925 := eq_true p925
      replace q925 := eq_true q925
      go_wp2
      go_roundg k1
      case measure => have := HK1.out; omega
      case rel => exact ⟨(wrap64 (x4_1 + 1)), (wrap64 (x5_1 + 1)), (by first | rfl | (simp; done) | (simp [*]; done)), (by first | rfl | (simp; done) | (simp [*]; done)), H', ⟨by have := HK1.out; omega⟩, ⟨onR HO_3⟩, ⟨bkn BK920⟩, ⟨bn HB⟩⟩
     ·rw [if_neg c12] at H
      have c12b0 : ((rd t922 x5_1) == x5_1) = false := beq_eq_false_iff_ne.mpr c12
      have c12b1 : ((rd t922 x5_1) != x5_1) = true := bne_iff_ne.mpr c12
      have H' := am H
      clear H
      obtain ⟨Ao14, co14, eo14⟩ := Kd.R_slice HO_3.out
      subst eo14
      have p925 : 0 ≤ (x5_1 : Int) := oa
      have q925 : x5_1 < (t922.length : Int) := oa
      obtain ⟨ad925, e925, hx925_0⟩ := Kd.at_int (Kd.R_reads' HO_3.out).2.2 x5_1 p925 q925
      cases e925
      replace p925 := eq_true p925
      replace q925 := eq_true q925
      go_wp2
      go_roundg k1
      case measure => have := HK1.out; omega
      case rel => exact ⟨(x4_1), (wrap64 (x5_1 + 1)), (by first | rfl | (simp; done) | (simp [*]; done)), (by first | rfl | (simp; done) | (simp [*]; done)), H', ⟨by have := HK1.out; omega⟩, ⟨onR HO_3⟩, ⟨bkn BK920⟩, ⟨bn HB⟩⟩
    ·rw [if_neg c10] at H
     have c10b0 := decide_eq_false c10
     clear c10
     obtain rfl := Option.some.inj H
     obtain ⟨Ao15, co15, eo15⟩ := Kd.R_slice HO_3.out
     subst eo15
     go_wp2
     go_ret
     exact ⟨by first | rfl | (simp [errW_none, errW_some] <;> rfl) | (simp [*, errW_none, errW_some] <;> rfl), bn HB⟩
 ·replace c3 := Bool.eq_false_iff.mpr c3
  subst c3
  rw [if_neg (show ¬ (false = true) by decide)] at H
  obtain rfl := Option.some.inj H
  go_enter Try.func115, Try.ntmps115
  go_wp2_with (first | ((with_reducible refine gate_dst (N := 1) rfl ?_); refine be_ 1 #[.int .i64 a0_0, .slice A0_1 l0_1.length c0_1] 34 ?_; intro gb920 hg w16 hbox hb; have BK920 := am hbox; have GW920 := am (ge_ hg HB); have GE920 := am (ge_ hg HB); replace HB := bs HB hb; clear hb hbox hg; obtain ⟨hcz17_0, hcz17_1, hfz17_0, hfz17_1⟩ := c2 BK920) | ((with_reducible refine gate_callee (f := 66) rfl ?_); refine gl_ (some 7) Try.func66 #[.agg #[.int .i64 a0_0, .slice A0_1 l0_1.length c0_1]] ?_; (with_reducible refine (spec_NetOk.calls k a0_0 _ _ l0_1 false _ ?side1 ?side2 A2.out).mono ?_); (case side1 => exact cb HR0_1 HB); (case side2 => exact HC0_1.out); rintro e w18 ⟨rfl, hb⟩; refine ⟨_, rfl, ?_⟩; replace BK920 := bb BK920 hb; replace HB := bs HB hb; (try clear hb); (try clear hi)))
  go_ret
  exact ⟨by first | rfl | (simp [errW_none, errW_some] <;> rfl) | (simp [*, errW_none, errW_some] <;> rfl), bn HB⟩

end Go.Proofs.Ytdlnnjgjfngccaa.F
