-- Written by oprint.py (wip/tools) over the kit's print program, for this seat.
import Derived.Test.YtdlnnjgjfngccaaF0
import Derived.Test.YtdlnnjgjfngccaaF17
import Derived.Test.YtdlnnjgjfngccaaF19
namespace Go.Proofs.Ytdlnnjgjfngccaa.F
open Go.RowKit Go.Proofs.YtdlnnjgjfngccaaW.PrintWords Go.Proofs.YtdlnnjgjfngccaaW.PrintLast Go.Proofs.YtdlnnjgjfngccaaW.PrintMore
attribute [local go_sem] max2_int min2_int max_two min_two max_three min_three max_four min_four   -- for this text's walks alone
set_option linter.unusedVariables false
set_option linter.unusedSimpArgs false

/-! ### spec_l2Next: function 134 -/
def spec_l2Next.l0 : Nat → Int → List Int → Int → Int → List (S73) → Option (List Int)
 | 0, _, _, _, _, _ => none
 | k + 1, x1, x5, x6, x351000, x351001 => if x6 < x351000 then ((spec_l1Has.f k x351000 x351001 x1 x6).bind fun t354 => (if t354 = true then (if x5.length < 17592186044416 then (spec_l2Next.l0 k x1 (x5 ++ [x6]) (wrap64 (x6 + 1)) x351000 x351001) else (none)) else (spec_l2Next.l0 k x1 x5 (wrap64 (x6 + 1)) x351000 x351001))) else (some x5)
def spec_l2Next.f (k : Nat) (a0_0 : Int) (l0_1 : List (S73)) (a1 : Int) : Option (List Int) := spec_l2Next.l0 k a1 (([] : List Int)) 0 a0_0 l0_1
theorem spec_l2Next.mono_l : ∀ k, (∀ y0 y1 y2 y3 y4, LeO (spec_l2Next.l0 k y0 y1 y2 y3 y4) (spec_l2Next.l0 (k + 1) y0 y1 y2 y3 y4))
 | 0 => fun _ _ _ _ _ r h => by simp [spec_l2Next.l0] at h
 | k + 1 => by
  have ih0 := spec_l2Next.mono_l k
  ·intro y0 y1 y2 y3 y4
   unfold spec_l2Next.l0
   have m0_ := @spec_l1Has.mono
   exact mo_
theorem spec_l2Next.mono : ∀ a0 a1 a2 k, LeO (spec_l2Next.f k a0 a1 a2) (spec_l2Next.f (k + 1) a0 a1 a2) := by
 intro a0 a1 a2 k
 have ih0 := spec_l2Next.mono_l k
 unfold spec_l2Next.f
 have m0_ := @spec_l1Has.mono
 exact mo_
set_option maxHeartbeats 8000000 in
set_option maxRecDepth 100000 in
theorem spec_l2Next.calls (k : Nat) (a0_0 : Int) (A0_1 : Option Addr) (c0_1 : Nat) (l0_1 : List (S73)) (a1 : Int) (r : List Int) (w : World) (hr0_1 : Kd.C k73 w A0_1 l0_1.length l0_1) (hc0_1 : l0_1.length ≤ c0_1) (h : spec_l2Next.f k a0_0 l0_1 a1 = some r) :
  Calls Try.prog 134 #[.agg #[.int .i64 a0_0, .slice A0_1 l0_1.length c0_1], .int .i64 a1] w fun e w' => ∃ v0_ : Value, e = .returned (v0_) ∧ Kd.R (Kd.int .i64) 3 w' w.heap.size (fun _ => True) v0_ r ∧ Below w.heap.size w w' := by
 have hu34 := Try.underlying34
 have HR0_1 := am hr0_1
 have HC0_1 := am hc0_1
 clear hr0_1 hc0_1
 have HB := am (Below.refl w.heap.size w)
 have H : (spec_l2Next.l0 k a1 (([] : List Int)) 0 a0_0 l0_1) = some r := h
 clear h
 obtain ⟨y351, hy351⟩ : ∃ y_ : List Int, y_ = (([] : List Int)) := ⟨_, rfl⟩
 replace H : (spec_l2Next.l0 k a1 y351 0 a0_0 l0_1) = some r := nh_ hy351 H
 have Ny351 := am hy351
 clear hy351
 have H' := am H
 clear H
 go_enter Try.func134, Try.ntmps134
 go_wp2_with (first | ((with_reducible refine gate_dst (N := 2) rfl ?_); refine be_ 2 #[.int .i64 a0_0, .slice A0_1 l0_1.length c0_1] 34 ?_; intro gb350 hg w3 hbox hb; have BK350 := am hbox; have GW350 := am (ge_ hg HB); have GE350 := am (ge_ hg HB); replace HB := bs HB hb; clear hb hbox hg) | ((with_reducible refine gate_dst (N := 7) rfl ?_); refine Kd.R_lit (Kd.int .i64) _ 3 ?hg (N := 7) ?hd (xs := ([] : List Int)) (inner := []) (ok := fun _ => True) (okp := fun _ => True) ?hr ?hp (fun _ hk => hk) trivial (Below.refl _ _) (Nat.le_refl _) (by simp) ?_; (case hd => rfl); (case hg => rfl); (case hr => first | (go_simp; done) | (go_simp; rfl)); (case hp => exact (Reps.none _ _)); intro v352 w4 ho5 hb hg_ hnew_; clear hg_ hnew_; (first | rw [← Ny351.out] at ho5 | (simp only [Int.reduceToNat] at ho5; rw [← Ny351.out] at ho5)); have HO353 := am (Kd.R_lower ho5 (below_size (bn HB))); replace BK350 := bb BK350 hb; replace HB := bs HB hb; clear hb ho5))
 go_loopg [5, 6] k (fun kq v5 v6 w' => ∃ (x5_1 : List Int) (x6_1 : Int), v6 = .int .i64 x6_1 ∧ Aside0 (spec_l2Next.l0 kq a1 x5_1 x6_1 a0_0 l0_1 = some r) ∧ Aside0 (kq ≤ k) ∧ Aside0 (Kd.R (Kd.int .i64) 3 w' w.heap.size (fun _ => True) v5 x5_1) ∧ Aside0 (w'.heap[gb350]? = some (.cells #[.int .i64 a0_0, (.slice A0_1 l0_1.length c0_1)] 34 (0, 0))) ∧ Aside0 (Below w.heap.size w w'))
 case atStart => exact ⟨(y351), (0), (by first | rfl | (simp; done) | (simp [*]; done)), H', ⟨Nat.le_refl _⟩, ⟨onR HO353⟩, ⟨bkn BK350⟩, ⟨bn HB⟩⟩
 case round =>
  clear H'
  try clear c1
  try clear p2
  obtain ⟨x5_1, x6_1, rfl, HA, HK1, HO_5, BK350, HB⟩ := hrel
  cases gk with
  | zero => exact absurd HA.out (by simp [spec_l2Next.l0])
  | succ k1 =>
   have H := HA.out
   clear HA
   simp only [spec_l2Next.l0] at H
   by_cases c6 : x6_1 < a0_0
   ·rw [if_pos c6] at H
    have c6b0 := decide_eq_true c6
    clear c6
    replace H := Option.bind_eq_some_iff.mp H
    obtain ⟨t354, A70, H⟩ := H
    (try dsimp only at H)
    have A7 := am A70
    clear A70
    by_cases c8 : t354 = true
    ·subst c8
     rw [if_pos rfl] at H
     obtain ⟨c9, H⟩ := ig_ H
     have LMc9 := am c9
     clear c9
     obtain ⟨y355, hy355⟩ : ∃ y_ : List Int, y_ = (x5_1 ++ [x6_1]) := ⟨_, rfl⟩
     replace H : (spec_l2Next.l0 k1 a1 y355 (wrap64 (x6_1 + 1)) a0_0 l0_1) = some r := nh_ hy355 H
     have Ny355 := am hy355
     clear hy355
     have H' := am H
     clear H
     obtain ⟨hcz10_0, hcz10_1, hfz10_0, hfz10_1⟩ := c2 BK350
     go_wp2_with (first | ((with_reducible refine gate_callee (f := 129) rfl ?_); refine gl_ (some 17) Try.func129 #[.agg #[.int .i64 a0_0, .slice A0_1 l0_1.length c0_1], .int .i64 a1, .int .i64 x6_1] ?_; (with_reducible refine (spec_l1Has.calls k1 a0_0 _ _ l0_1 a1 x6_1 true _ ?side1 ?side2 A7.out).mono ?_); (case side1 => exact cb HR0_1 HB); (case side2 => exact HC0_1.out); rintro e w11 ⟨rfl, hb⟩; refine ⟨_, rfl, ?_⟩; replace HO_5 := am (Kd.R_below (onR HO_5) hb); replace BK350 := bb BK350 hb; replace HB := bs HB hb; (try clear hb); (try clear hi)) | ((with_reducible refine gate_builtin (b := .append) (xs := #[.tmp 18, .tmp 20]) rfl ?_); at_builtin; refine Kd.R_append (Kd.int .i64) (w0 := w) w.heap.size rfl (.tmp 18) (.tmp 20) 40 3 (.int .i64 0) 8 rfl Try.underlying40 info3 rfl (by decide) (by omega) u5 x5_1 x6_1 [.int .i64 x6_1] (fun _ => True) (fun _ => False) rfl rfl ?aP (fun _ hk => hk.elim) ?aF ?aO ?aB ?aS ?aL ?_; (case aP => exact rfl); (case aB => exact (bn HB)); (case aF => exact (fun _ _ => trivial)); (case aO => exact (onR HO_5)); (case aS => exact (below_size (bn HB))); (case aL => have := LMc9.out; omega); intro v356 w12 ho hb hg hat; rw [← Ny355.out] at ho; replace BK350 := am (blk_grown (bkn BK350) hg (Kd.R_ne HO_5.out BK350.out (by decide))); replace HB := am hb; have HO357 := am ho; clear HO_5; clear ho hb hg hat))
     go_roundg k1
     case measure => have := HK1.out; omega
     case rel => exact ⟨(y355), (wrap64 (x6_1 + 1)), (by first | rfl | (simp; done) | (simp [*]; done)), H', ⟨by have := HK1.out; omega⟩, ⟨onR HO357⟩, ⟨bkn BK350⟩, ⟨bn HB⟩⟩
    ·replace c8 := Bool.eq_false_iff.mpr c8
     subst c8
     rw [if_neg (show ¬ (false = true) by decide)] at H
     have H' := am H
     clear H
     obtain ⟨hcz13_0, hcz13_1, hfz13_0, hfz13_1⟩ := c2 BK350
     go_wp2_with (first | ((with_reducible refine gate_callee (f := 129) rfl ?_); refine gl_ (some 17) Try.func129 #[.agg #[.int .i64 a0_0, .slice A0_1 l0_1.length c0_1], .int .i64 a1, .int .i64 x6_1] ?_; (with_reducible refine (spec_l1Has.calls k1 a0_0 _ _ l0_1 a1 x6_1 false _ ?side1 ?side2 A7.out).mono ?_); (case side1 => exact cb HR0_1 HB); (case side2 => exact HC0_1.out); rintro e w14 ⟨rfl, hb⟩; refine ⟨_, rfl, ?_⟩; replace HO_5 := am (Kd.R_below (onR HO_5) hb); replace BK350 := bb BK350 hb; replace HB := bs HB hb; (try clear hb); (try clear hi)))
     go_roundg k1
     case measure => have := HK1.out; omega
     case rel => exact ⟨(x5_1), (wrap64 (x6_1 + 1)), (by first | rfl | (simp; done) | (simp [*]; done)), H', ⟨by have := HK1.out; omega⟩, ⟨onR HO_5⟩, ⟨bkn BK350⟩, ⟨bn HB⟩⟩
   ·rw [if_neg c6] at H
    have c6b0 := decide_eq_false c6
    clear c6
    obtain rfl := Option.some.inj H
    obtain ⟨hcz15_0, hcz15_1, hfz15_0, hfz15_1⟩ := c2 BK350
    go_wp2
    go_ret
    exact ⟨_, by first | rfl | (simp [errW_none, errW_some] <;> rfl) | (simp [*, errW_none, errW_some] <;> rfl), onR HO_5, bn HB⟩

/-! ### spec_WayReach: function 97 -/
mutual
def spec_WayReach.l0 : Nat → List Bool → List Int → Int → List (S73) → Option (List Bool)
 | 0, _, _, _, _ => none
 | k + 1, x5, x6, x359000, x359001 => if (x6.length : Int) > 0 then (if 0 < (x6.length : Int) then ((spec_l2Next.f k x359000 x359001 (rd x6 0)).bind fun t371 => (if 1 ≤ (x6.length : Int) then (spec_WayReach.l1 k x5 (x6.drop (1 : Int).toNat) t371 0 x359000 x359001) else (none))) else (none)) else (some x5)
def spec_WayReach.l1 : Nat → List Bool → List Int → List Int → Int → Int → List (S73) → Option (List Bool)
 | 0, _, _, _, _, _, _ => none
 | k + 1, x5, x6, x7, x8, x359000, x359001 => if x8 < (x7.length : Int) then (if 0 ≤ x8 then (if 0 ≤ (rd x7 x8) then (if (rd x7 x8) < (x5.length : Int) then (if (rdOf false x5 (rd x7 x8) = true) then (spec_WayReach.l1 k x5 x6 x7 (wrap64 (x8 + 1)) x359000 x359001) else (if x6.length < 17592186044416 then (spec_WayReach.l1 k (x5.set ((rd x7 x8) : Int).toNat true) (x6 ++ [rd x7 x8]) x7 (wrap64 (x8 + 1)) x359000 x359001) else (none))) else (none)) else (none)) else (none)) else (spec_WayReach.l0 k x5 x6 x359000 x359001)
end
def spec_WayReach.f (k : Nat) (a0_0 : Int) (l0_1 : List (S73)) (a1 : Int) : Option (List Bool) := (spec_l1Knot.f k a0_0 l0_1 a1).bind fun t359 => (if t359 = true then (if 0 ≤ a0_0 then (if (a0_0 : Int).toNat ≤ 281474976710656 then ((some (List.replicate (a0_0 : Int).toNat false : List Bool)).bind fun y363 => (if 0 ≤ a1 then (if a1 < (y363.length : Int) then (spec_WayReach.l0 k (y363.set (a1 : Int).toNat true) (([a1] : List Int)) a0_0 l0_1) else (none)) else (none))) else (none)) else (none)) else (some (([] : List Bool))))
theorem spec_WayReach.mono_l : ∀ k, (∀ y0 y1 y2 y3, LeO (spec_WayReach.l0 k y0 y1 y2 y3) (spec_WayReach.l0 (k + 1) y0 y1 y2 y3)) ∧ (∀ y0 y1 y2 y3 y4 y5, LeO (spec_WayReach.l1 k y0 y1 y2 y3 y4 y5) (spec_WayReach.l1 (k + 1) y0 y1 y2 y3 y4 y5))
 | 0 => ⟨fun _ _ _ _ r h => by simp [spec_WayReach.l0] at h, fun _ _ _ _ _ _ r h => by simp [spec_WayReach.l1] at h⟩
 | k + 1 => by
  obtain ⟨ih0, ih1⟩ := spec_WayReach.mono_l k
  refine ⟨?_, ?_⟩
  ·intro y0 y1 y2 y3
   unfold spec_WayReach.l0
   have m0_ := @spec_l1Knot.mono
   have m1_ := @spec_l2Next.mono
   exact mo_
  ·intro y0 y1 y2 y3 y4 y5
   unfold spec_WayReach.l1
   have m0_ := @spec_l1Knot.mono
   have m1_ := @spec_l2Next.mono
   exact mo_
theorem spec_WayReach.mono : ∀ a0 a1 a2 k, LeO (spec_WayReach.f k a0 a1 a2) (spec_WayReach.f (k + 1) a0 a1 a2) := by
 intro a0 a1 a2 k
 obtain ⟨ih0, ih1⟩ := spec_WayReach.mono_l k
 unfold spec_WayReach.f
 have m0_ := @spec_l1Knot.mono
 have m1_ := @spec_l2Next.mono
 exact mo_
set_option maxHeartbeats 8000000 in
set_option maxRecDepth 100000 in
theorem spec_WayReach.calls (k : Nat) (a0_0 : Int) (A0_1 : Option Addr) (c0_1 : Nat) (l0_1 : List (S73)) (a1 : Int) (r : List Bool) (w : World) (hr0_1 : Kd.C k73 w A0_1 l0_1.length l0_1) (hc0_1 : l0_1.length ≤ c0_1) (h : spec_WayReach.f k a0_0 l0_1 a1 = some r) :
  Calls Try.prog 97 #[.agg #[.int .i64 a0_0, .slice A0_1 l0_1.length c0_1], .int .i64 a1] w fun e w' => ∃ v0_ : Value, e = .returned (v0_) ∧ Kd.R Kd.bool 4 w' w.heap.size (fun _ => True) v0_ r ∧ Below w.heap.size w w' := by
 have hu34 := Try.underlying34
 have HR0_1 := am hr0_1
 have HC0_1 := am hc0_1
 clear hr0_1 hc0_1
 have HB := am (Below.refl w.heap.size w)
 have H : ((spec_l1Knot.f k a0_0 l0_1 a1).bind fun t359 => (if t359 = true then (if 0 ≤ a0_0 then (if (a0_0 : Int).toNat ≤ 281474976710656 then ((some (List.replicate (a0_0 : Int).toNat false : List Bool)).bind fun y363 => (if 0 ≤ a1 then (if a1 < (y363.length : Int) then (spec_WayReach.l0 k (y363.set (a1 : Int).toNat true) (([a1] : List Int)) a0_0 l0_1) else (none)) else (none))) else (none)) else (none)) else (some (([] : List Bool))))) = some r := h
 clear h
 replace H := Option.bind_eq_some_iff.mp H
 obtain ⟨t359, A30, H⟩ := H
 (try dsimp only at H)
 have A3 := am A30
 clear A30
 by_cases c4 : t359 = true
 ·subst c4
  rw [if_pos rfl] at H
  obtain ⟨c5, H⟩ := ig_ H
  have c5b0 := eq_true c5
  have c5b1 := decide_eq_true c5
  clear c5
  obtain ⟨c6, H⟩ := ig_ H
  have c6b0 := eq_true c6
  have c6b1 := decide_eq_true c6
  clear c6
  obtain ⟨y363, hy363⟩ : ∃ y_ : List Bool, y_ = (List.replicate (a0_0 : Int).toNat false) := ⟨_, rfl⟩
  replace H : (if 0 ≤ a1 then (if a1 < (y363.length : Int) then (spec_WayReach.l0 k (y363.set (a1 : Int).toNat true) (([a1] : List Int)) a0_0 l0_1) else (none)) else (none)) = some r := nh_ hy363 H
  have Ny363 := am hy363
  clear hy363
  obtain ⟨c7, H⟩ := ig_ H
  have c7b0 := decide_eq_true c7
  clear c7
  obtain ⟨c8, H⟩ := ig_ H
  have c8b0 := decide_eq_true c8
  clear c8
  obtain ⟨y366, hy366⟩ : ∃ y_ : List Bool, y_ = (y363.set (a1 : Int).toNat true) := ⟨_, rfl⟩
  replace H : (spec_WayReach.l0 k y366 (([a1] : List Int)) a0_0 l0_1) = some r := nh_ hy366 H
  have Ny366 := am hy366
  clear hy366
  obtain ⟨y367, hy367⟩ : ∃ y_ : List Int, y_ = (([a1] : List Int)) := ⟨_, rfl⟩
  replace H : (spec_WayReach.l0 k y366 y367 a0_0 l0_1) = some r := nh_ hy367 H
  have Ny367 := am hy367
  clear hy367
  have H' := am H
  clear H
  go_enter Try.func97, Try.ntmps97
  go_wp2_with (first | ((with_reducible refine gate_dst (N := 2) rfl ?_); refine be_ 2 #[.int .i64 a0_0, .slice A0_1 l0_1.length c0_1] 34 ?_; intro gb358 hg w10 hbox hb; have BK358 := am hbox; have GW358 := am (ge_ hg HB); have GE358 := am (ge_ hg HB); replace HB := bs HB hb; clear hb hbox hg; obtain ⟨hcz11_0, hcz11_1, hfz11_0, hfz11_1⟩ := c2 BK358) | ((with_reducible refine gate_callee (f := 87) rfl ?_); refine gl_ (some 11) Try.func87 #[.agg #[.int .i64 a0_0, .slice A0_1 l0_1.length c0_1], .int .i64 a1] ?_; (with_reducible refine (spec_l1Knot.calls k a0_0 _ _ l0_1 a1 true _ ?side1 ?side2 A3.out).mono ?_); (case side1 => exact cb HR0_1 HB); (case side2 => exact HC0_1.out); rintro e w12 ⟨rfl, hb⟩; refine ⟨_, rfl, ?_⟩; replace BK358 := bb BK358 hb; replace HB := bs HB hb; (try clear hb); obtain ⟨hcz13_0, hcz13_1, hfz13_0, hfz13_1⟩ := c2 BK358) | ((with_reducible refine gate_dst (N := 16) rfl ?_); refine Kd.R_make Kd.bool _ 4 rfl (N := 16) rfl 69 _ _ rfl a0_0 rfl rfl Try.underlying69 (.bool false) 1 info4 rfl (by decide) (by omega) false (ok := fun _ => True) (okp := fun _ => True) rfl (fun _ hk => hk) trivial (oa) (Nat.le_trans (Nat.mul_le_mul_right _ (oa : a0_0.toNat ≤ 281474976710656)) (by omega)) (Below.refl _ _) (Nat.le_refl _) ?_; intro v364 w14 ho15 hb hg_ hnew_; clear hg_ hnew_; (first | rw [← Ny363.out] at ho15 | (simp only [Int.reduceToNat] at ho15; rw [← Ny363.out] at ho15)); have HO365 := am (Kd.R_lower ho15 (below_size (bn HB))); replace BK358 := bb BK358 hb; replace HB := bs HB hb; clear hb ho15; have p9 : 0 ≤ (a1 : Int) := oa; have q9 : (a1 : Int) < ((y363.length : Int) : Int) := oa; obtain ⟨go9, co9, eo9, gb9, gl9, cl9, HG9⟩ := Kd.R_form HO365.out (by omega); (first | cases eo9 | (injection eo9 with ea_ en_ ec_; (first | subst ea_ | (injection ea_ with ea_; subst ea_)); subst ec_; clear en_)); have GB9 := am gb9; have GG9 := am HG9; clear gb9 gl9 HG9; obtain ⟨hx9_0, hf9_0⟩ := Kd.R_celln false HO365.out (a1 : Int) p9 q9; replace p9 := eq_true p9; replace q9 := eq_true q9; obtain ⟨hy16_, hz16_⟩ := Kd.R_celln false HO365.out (a1 : Int) (oa) (oa); have HP16 := Kd.R_putg HO365.out (a1 : Int) true) | ((with_reducible refine gate_store (t := 4) (p := 19) rfl ?_); refine store_event (t := 4) (p := 19) (v := ?vo_w17) (w1 := (w14.setCell ⟨go9, (a1 : Int).toNat, none⟩ (.bool true))) ?hg ?ho ?hn ?hr ?_; (case ho => rfl); (case hg => rfl); (case hn => rfl); (case hr => first | (go_simp; done) | (go_simp; rfl)); intro w17 hw; have hg : w14.grownBy w17 (some go9) := (by rw [hw]; exact HP16.2); have hp_ : Kd.R Kd.bool 4 w17 w.heap.size (fun _ => True) (.slice (some ⟨go9, 0, none⟩) y363.length co9) y366 := (by rw [hw, Ny366.out]; exact HP16.1); clear HP16; replace BK358 := am (blk_grown (bkn BK358) hg (Kd.R_ne HO365.out BK358.out (by decide))); replace HO365 := am hp_; replace HB := am (by rw [hw]; exact below_set (HB.out) GB9.out : Below w.heap.size w w17); clear hg hw hp_) | ((with_reducible refine gate_dst (N := 21) rfl ?_); refine Kd.R_lit (Kd.int .i64) _ 3 ?hg (N := 21) ?hd (xs := ([a1] : List Int)) (inner := [.int .i64 a1]) (ok := fun _ => True) (okp := fun _ => True) ?hr ?hp (fun _ hk => hk) trivial (Below.refl _ _) (Nat.le_refl _) (by simp) ?_; (case hd => rfl); (case hg => rfl); (case hr => first | (go_simp; done) | (go_simp; rfl)); (case hp => exact (Reps.one (show Kd.M (Kd.int .i64) _ _ _ a1 [.int .i64 a1] from rfl) (Reps.none _ _))); intro v368 w18 ho19 hb hg_ hnew_; clear hg_ hnew_; (first | rw [← Ny367.out] at ho19 | (simp only [Int.reduceToNat] at ho19; rw [← Ny367.out] at ho19)); replace HO365 := am (Kd.R_below (onR HO365) hb); have HO369 := am (Kd.R_lower ho19 (below_size (bn HB))); replace BK358 := bb BK358 hb; replace HB := bs HB hb; clear hb ho19))
  go_loopg [6] k (fun kq v6 w' => ∃ (x5_1 : List Bool) (x6_1 : List Int), Aside0 (spec_WayReach.l0 kq x5_1 x6_1 a0_0 l0_1 = some r) ∧ Aside0 (kq ≤ k) ∧ Aside0 (Kd.R Kd.bool 4 w' w.heap.size (fun _ => True) (.slice (some ⟨go9, 0, none⟩) y363.length co9) x5_1) ∧ Aside0 (Kd.Q (Kd.int .i64) 3 w' w.heap.size (fun _ => True) v6 x6_1) ∧ Aside0 (w'.heap[gb358]? = some (.cells #[.int .i64 a0_0, (.slice A0_1 l0_1.length c0_1)] 34 (0, 0))) ∧ Aside0 (Below w.heap.size w w'))
  case atStart => exact ⟨(y366), (y367), H', ⟨Nat.le_refl _⟩, ⟨onR HO365⟩, ⟨Kd.Q_of_R (onR HO369)⟩, ⟨bkn BK358⟩, ⟨bn HB⟩⟩
  case round =>
   clear H'
   try clear p2
   try clear c4
   try clear c5
   try clear c5b0
   try clear c5b1
   try clear c6
   try clear c6b0
   try clear c6b1
   try clear c7
   try clear c7b0
   try clear c8
   try clear c8b0
   try clear c9
   try clear p9
   try clear q9
   try clear hx9
   try clear hf9
   try clear hcz11_0 hcz11_1 hfz11_0 hfz11_1
   try clear hcz13_0 hcz13_1 hfz13_0 hfz13_1
   try clear hx9_0
   try clear p9
   try clear q9
   obtain ⟨x5_1, x6_1, HA, HK1, HO_5, HO_6, BK358, HB⟩ := hrel
   have hl5_1 := (Kd.R_reads' HO_5.out).1
   rw [hl5_1] at HO_5
   (try simp only [hl5_1])
   (try simp only [hl5_1] at BK358)
   (try simp only [hl5_1] at HO_6)
   cases gk with
   | zero => exact absurd HA.out (by simp [spec_WayReach.l0])
   | succ k1 =>
    have H := HA.out
    clear HA
    simp only [spec_WayReach.l0] at H
    by_cases c20 : (x6_1.length : Int) > 0
    ·rw [if_pos c20] at H
     have c20b0 := decide_eq_true c20
     have c20b1 : decide (0 < x6_1.length) = true := decide_eq_true (by omega)
     clear c20
     obtain ⟨c21, H⟩ := ig_ H
     have c21b0 := decide_eq_true c21
     have c21b1 : decide (0 < x6_1.length) = true := decide_eq_true (by omega)
     clear c21
     replace H := Option.bind_eq_some_iff.mp H
     obtain ⟨t371, A220, H⟩ := H
     (try dsimp only at H)
     have A22 := am A220
     clear A220
     obtain ⟨c23, H⟩ := ig_ H
     have c23b0 := eq_true c23
     have c23b1 := decide_eq_true c23
     clear c23
     obtain ⟨y374, hy374⟩ : ∃ y_ : List Int, y_ = (x6_1.drop (1 : Int).toNat) := ⟨_, rfl⟩
     replace H : (spec_WayReach.l1 k1 x5_1 y374 t371 0 a0_0 l0_1) = some r := nh_ hy374 H
     have Ny374 := am hy374
     clear hy374
     have H' := am H
     clear H
     obtain ⟨Ao24, co24, eo24, _⟩ := Kd.Q_slice HO_6.out
     subst eo24
     try go_wp2
     replace HO_5 := am (Kd.R_drew HO_5.out)
     replace HO_6 := am (Kd.Q_drew HO_6.out)
     replace BK358 := am (blk_drew BK358.out)
     replace HB := am (below_drew1 HB.out)
     have p370 : 0 ≤ (0 : Int) := (by omega)
     have q370 : 0 < (x6_1.length : Int) := oa
     obtain ⟨ad370, e370, hx370_0⟩ := Kd.at_int (Kd.Q_reads' HO_6.out).2.2 0 p370 q370
     cases e370
     have qi370 : (0 < x6_1.length) = True := eq_true (by omega)
     (try rw [show ((0 : Int)).toNat = 0 from rfl] at hx370_0)
     (try rw [Addr.add_zero'] at hx370_0)
     replace p370 := eq_true p370
     replace q370 := eq_true q370
     refine start_ (n := 6) (S := fun w' => w'.cell? ⟨gb358, 0, none⟩ = some (.int .i64 a0_0) ∧ w'.cell? ⟨gb358, 1, none⟩ = some (.slice A0_1 l0_1.length c0_1) ∧ w'.cell? ad370 = some (.int .i64 (rd x6_1 0))) (ds := []) #[false, false, false, false, false, false] (by kernel_rfl) rfl rfl ⟨(bc BK358 0), (bc BK358 1), hx370_0⟩ (fun hHeld => ?_)
     generalize wr.drew = w25 at HO_5 HO_6 BK358 HB hx370_0 hHeld ⊢
     refine pure_ (i := 1) (N := some 26) (v := ?_) (a' := ?_) #[false, true, false, false, false, false] rfl rfl (by kernel_rfl) (fun _ _ _ h => h) (Or.inl ⟨by rfl, ?_⟩) ?_ ?_; rotate_left; (intro w'; go_simp; with_reducible rfl); rotate_left; (simp only [Act.put, List.setIfInBounds_toArray, List.set_cons_zero, List.set_cons_succ, i64_w, i32_w]; rfl)
     refine pure_ (i := 2) (N := some 27) (v := ?_) (a' := ?_) #[false, true, true, false, false, false] rfl rfl (by kernel_rfl) (fun _ _ _ h => h) (Or.inl ⟨by rfl, ?_⟩) ?_ ?_; rotate_left; (intro w'; go_simp; with_reducible rfl); rotate_left; (simp only [Act.put, List.setIfInBounds_toArray, List.set_cons_zero, List.set_cons_succ, i64_w, i32_w]; rfl)
     refine take_ (i := 0) (N := some 25) (v := ?_) (a' := ?_) #[true, true, true, false, false, false] rfl rfl (by kernel_rfl) (fun _ _ _ h => h) (Or.inl ⟨by rfl, ?_⟩) hHeld ?_ ?_; rotate_left; (rintro w' ⟨s0, s1, s2⟩; go_simp; with_reducible rfl); rotate_left; (simp only [Act.put, List.setIfInBounds_toArray, List.set_cons_zero, List.set_cons_succ, i64_w, i32_w]; rfl)
     refine take_ (i := 3) (N := some 28) (v := ?_) (a' := ?_) #[true, true, true, true, false, false] rfl rfl (by kernel_rfl) (fun _ _ _ h => h) (Or.inl ⟨by rfl, ?_⟩) hHeld ?_ ?_; rotate_left; (rintro w' ⟨s0, s1, s2⟩; go_simp; with_reducible rfl); rotate_left; (simp only [Act.put, List.setIfInBounds_toArray, List.set_cons_zero, List.set_cons_succ, i64_w, i32_w]; rfl)
     refine one_ (i := 4) (N := some 29) #[true, true, true, true, true, false] rfl rfl (by kernel_rfl) (by decide) (fun K hK => ?_)
     refine gg_ Try.func134 #[.agg #[.int .i64 a0_0, .slice A0_1 l0_1.length c0_1], .int .i64 (rd x6_1 0)] ?_
     with_reducible refine (spec_l2Next.calls k1 a0_0 _ _ l0_1 (rd x6_1 0) t371 _ ?side1 ?side2 A22.out).mono ?_
     (case side1 => exact cb HR0_1 HB)
     (case side2 => exact HC0_1.out)
     rintro e w26 ⟨v372, rfl, ho0, hb⟩
     have HS2_ := (hb.cell (World.block_lt_of_cell? _ _ (hHeld.2.2))).trans (hHeld.2.2)
     refine ⟨_, rfl, ?_⟩
     replace HO_5 := am (Kd.R_below (onR HO_5) hb)
     have HO373 := am (Kd.R_lower (Kd.R_new' ho0 (Kd.Q_lt (onQ HO_6))) (below_size (bn HB)))
     replace HO_6 := am (Kd.Q_elder' (onQ HO_6) (Kd.R_base ho0) hb)
     replace BK358 := bb BK358 hb
     replace HB := bs HB hb
     (try clear hb)
     (try clear hb2)
     (try clear hk)
     (try clear hi)
     (try clear ho0)
     refine hK.out _ _ ⟨(bc BK358 0), (bc BK358 1), HS2_⟩ (fun hHeld => ?_)
     clear hK K
     refine nz_ 29 ?_
     refine pure_ (i := 5) (N := some 7) (v := ?_) (a' := ?_) #[true, true, true, true, true, true] rfl rfl (by kernel_rfl) (fun _ _ _ h => h) (Or.inl ⟨by rfl, ?_⟩) ?_ ?_; rotate_left; (intro w'; go_simp; with_reducible rfl); rotate_left; (simp only [Act.put, List.setIfInBounds_toArray, List.set_cons_zero, List.set_cons_succ, i64_w, i32_w]; rfl)
     refine done_ (by kernel_rfl) ?_
     have n_ := am (Kd.Q_mono (ok' := (fun k_ => some k_ ≠ (v372 : Value).ownBlock)) HO_6.out (fun k_ hk => hk.2))
     clear HO_6
     have HO_6 := n_
     clear n_
     have q27 : (1 : Int) ≤ ((x6_1.length : Int) : Int) := oa
     obtain ⟨i027, hi027, _, hsz27, _⟩ := info_parts info3
     have hcut27 := cut_from (P := Try.prog) 40 3 .i64 Try.underlying40 hi027 1 hsz27 (some ad370) x6_1.length co24 1 (by omega) q27
     have hr27 := Kd.Q_drop (k := (1 : Int).toNat) HO_6.out (by omega)
     obtain ⟨A27, hA27⟩ : ∃ A1, A1 = (if co24 = (1 : Int).toNat then (some ad370) else ((some ad370) : Option Addr).map (·.add ((1 : Int).toNat * 1))) := ⟨_, rfl⟩
     obtain ⟨c27, hc27⟩ : ∃ c1, c1 = co24 - (1 : Int).toNat := ⟨_, rfl⟩
     have hy27 : y374.length = x6_1.length - (1 : Int).toNat := (by rw [Ny374.out, List.length_drop])
     rw [← Ny374.out] at hr27
     rw [← hy27, ← hA27, ← hc27] at hcut27
     replace hr27 : Kd.Q (Kd.int .i64) 3 w26 w.heap.size (fun k_ => some k_ ≠ (v372 : Value).ownBlock) (.slice A27 y374.length c27) y374 := (by rw [hA27, hc27, hy27]; exact hr27)
     have HE27 : Aside0 ((Value.slice A27 y374.length c27).ownBlock = (.slice (some ad370) x6_1.length co24 : Value).ownBlock) := ⟨by rw [hA27]; split <;> (cases ((some ad370) : Option Addr) <;> rfl)⟩
     clear hy27 hi027 hsz27 HO_6 hA27 hc27
     have HO376 := am hr27
     clear hr27
     replace q27 := eq_true q27
     have n_ := am (Kd.R_mono (ok' := fun k_ => (True ∧ some k_ ≠ (.slice A27 y374.length c27 : Value).ownBlock)) HO373.out (fun k_ hk => ⟨trivial, (by rw [HE27.out]; exact hk.2)⟩))
     clear HO373
     have HO373 := n_
     clear n_
     try go_wp2
     go_loopg [6, 8] k1 (fun kq v6 v8 w' => ∃ (x5_2 : List Bool) (x6_2 : List Int) (x8_2 : Int), v8 = .int .i64 x8_2 ∧ Aside0 (spec_WayReach.l1 kq x5_2 x6_2 t371 x8_2 a0_0 l0_1 = some r) ∧ Aside0 (kq ≤ k1) ∧ Aside0 (Kd.R Kd.bool 4 w' w.heap.size (fun _ => True) (.slice (some ⟨go9, 0, none⟩) x5_1.length co9) x5_2) ∧ Aside0 (Kd.Q (Kd.int .i64) 3 w' w.heap.size (fun k_ => some k_ ≠ (v372 : Value).ownBlock) v6 x6_2) ∧ Aside0 (Kd.R (Kd.int .i64) 3 w' w.heap.size (fun k_ => some k_ ≠ (v6 : Value).ownBlock) v372 t371) ∧ Aside0 (w'.heap[gb358]? = some (.cells #[.int .i64 a0_0, (.slice A0_1 l0_1.length c0_1)] 34 (0, 0))) ∧ Aside0 (Below w.heap.size w w'))
     case atStart => exact ⟨(x5_1), (y374), (0), (by first | rfl | (simp; done) | (simp [*]; done)), H', ⟨Nat.le_refl _⟩, ⟨by (try simp only [hl5_1]); (with_reducible repeat (first | apply Kd.R_alloc | apply Kd.R_drewN | apply Kd.R_drew)); exact HO_5.out⟩, ⟨by (try simp only [hl5_1]); (with_reducible repeat (first | apply Kd.Q_alloc | apply Kd.Q_drewN | apply Kd.Q_drew)); exact HO376.out⟩, ⟨by (try simp only [hl5_1]); (with_reducible repeat (first | apply Kd.R_alloc | apply Kd.R_drewN | apply Kd.R_drew)); exact Kd.R_mono HO373.out (fun _ hk => hk.2)⟩, ⟨by (try simp only [hl5_1]); (with_reducible repeat (first | refine blk_drewN ?_ _ | refine blk_drew ?_ | refine blk_alloc ?_ _)); exact BK358.out⟩, ⟨bn HB⟩⟩
     case round =>
      clear H'
      try clear c1
      try clear c2
      try clear p2
      try clear q2
      try clear p3
      try clear q3
      try clear hx3
      try clear qi3
      try clear c4
      try clear c5
      try clear c5b0
      try clear c5b1
      try clear c6
      try clear c6b0
      try clear c6b1
      try clear c7
      try clear c7b0
      try clear c8
      try clear c8b0
      try clear c9
      try clear p9
      try clear q9
      try clear hx9
      try clear hf9
      try clear c13
      try clear c20
      try clear c20b0
      try clear c20b1
      try clear c21
      try clear c21b0
      try clear c21b1
      try clear c23
      try clear c23b0
      try clear c23b1
      try clear c27
      try clear q27
      try clear hcz11_0 hcz11_1 hfz11_0 hfz11_1
      try clear hcz13_0 hcz13_1 hfz13_0 hfz13_1
      try clear hx370_0
      try clear hx9_0
      try clear p2
      try clear p370
      try clear p9
      try clear q27
      try clear q370
      try clear q9
      obtain ⟨x5_2, x6_2, x8_2, rfl, HA, HK2, HO_5, HO_6, HO_7, BK358, HB⟩ := hrel
      have hl5_2 := (Kd.R_reads' HO_5.out).1
      rw [hl5_2] at HO_5
      (try simp only [hl5_2])
      (try simp only [hl5_2] at BK358)
      (try simp only [hl5_2] at HO_6)
      (try simp only [hl5_2] at HO_7)
      cases gk with
      | zero => exact absurd HA.out (by simp [spec_WayReach.l1])
      | succ k2 =>
       have H := HA.out
       clear HA
       simp only [spec_WayReach.l1] at H
       by_cases c28 : x8_2 < (t371.length : Int)
       ·rw [if_pos c28] at H
        have c28b0 := decide_eq_true c28
        clear c28
        obtain ⟨c29, H⟩ := ig_ H
        have c29b0 := decide_eq_true c29
        clear c29
        obtain ⟨c30, H⟩ := ig_ H
        have c30b0 := decide_eq_true c30
        clear c30
        obtain ⟨c31, H⟩ := ig_ H
        have c31b0 := decide_eq_true c31
        clear c31
        obtain ⟨bq32, hbq32⟩ : ∃ b_ : Bool, b_ = (rdOf false x5_2 (rd t371 x8_2)) := ⟨_, rfl⟩
        replace H : (if (bq32 = true) then (spec_WayReach.l1 k2 x5_2 x6_2 t371 (wrap64 (x8_2 + 1)) a0_0 l0_1) else (if x6_2.length < 17592186044416 then (spec_WayReach.l1 k2 (x5_2.set ((rd t371 x8_2) : Int).toNat true) (x6_2 ++ [rd t371 x8_2]) t371 (wrap64 (x8_2 + 1)) a0_0 l0_1) else (none))) = some r := by rw [← hbq32] at H; exact H
        have Nbq32 := am hbq32
        clear hbq32
        by_cases c33 : (bq32 = true)
        ·subst c33
         rw [if_pos rfl] at H
         have H' := am H
         clear H
         obtain ⟨Ao34, co34, eo34⟩ := Kd.R_slice HO_7.out
         subst eo34
         have p377 : 0 ≤ (x8_2 : Int) := oa
         have q377 : x8_2 < (t371.length : Int) := oa
         obtain ⟨ad377, e377, hx377_0⟩ := Kd.at_int (Kd.R_reads' HO_7.out).2.2 x8_2 p377 q377
         cases e377
         replace p377 := eq_true p377
         replace q377 := eq_true q377
         have p378 : 0 ≤ ((rd t371 x8_2) : Int) := oa
         have q378 : (rd t371 x8_2) < (x5_2.length : Int) := oa
         obtain ⟨ad378, e378, hx378_0⟩ := Kd.at_bool (Kd.R_reads' HO_5.out).2.2 (rd t371 x8_2) p378 q378
         (try rw [← Nbq32.out] at hx378_0)
         obtain rfl : (⟨go9, 0, none⟩ : Addr) = ad378 := (by injection e378)
         (first | simp only [add_plain] at hx378_0 | simp only [add_at] at hx378_0 | simp only [Addr.add, Nat.zero_add] at hx378_0 | skip)
         replace p378 := eq_true p378
         replace q378 := eq_true q378
         go_wp2
         (try simp only [← hl5_2])
         go_roundg k2
         case measure => have := HK1.out; have := HK2.out; omega
         case rel => exact ⟨(x5_2), (x6_2), (wrap64 (x8_2 + 1)), (by first | rfl | (simp; done) | (simp [*]; done)), H', ⟨by have := HK1.out; have := HK2.out; omega⟩, ⟨by (try simp only [hl5_1]); (try simp only [hl5_2]); (with_reducible repeat (first | apply Kd.R_alloc | apply Kd.R_drewN | apply Kd.R_drew)); exact HO_5.out⟩, ⟨by (try simp only [hl5_1]); (try simp only [hl5_2]); (with_reducible repeat (first | apply Kd.Q_alloc | apply Kd.Q_drewN | apply Kd.Q_drew)); exact HO_6.out⟩, ⟨by (try simp only [hl5_1]); (try simp only [hl5_2]); (with_reducible repeat (first | apply Kd.R_alloc | apply Kd.R_drewN | apply Kd.R_drew)); exact HO_7.out⟩, ⟨by (try simp only [hl5_1]); (try simp only [hl5_2]); (with_reducible repeat (first | refine blk_drewN ?_ _ | refine blk_drew ?_ | refine blk_alloc ?_ _)); exact BK358.out⟩, ⟨bn HB⟩⟩
        ·replace c33 := Bool.eq_false_iff.mpr c33
         subst c33
         rw [if_neg (show ¬ (false = true) by decide)] at H
         obtain ⟨y380, hy380⟩ : ∃ y_ : List Bool, y_ = (x5_2.set ((rd t371 x8_2) : Int).toNat true) := ⟨_, rfl⟩
         replace H : (if x6_2.length < 17592186044416 then (spec_WayReach.l1 k2 y380 (x6_2 ++ [rd t371 x8_2]) t371 (wrap64 (x8_2 + 1)) a0_0 l0_1) else (none)) = some r := nh_ hy380 H
         have Ny380 := am hy380
         clear hy380
         obtain ⟨c36, H⟩ := ig_ H
         have LMc36 := am c36
         clear c36
         obtain ⟨y382, hy382⟩ : ∃ y_ : List Int, y_ = (x6_2 ++ [rd t371 x8_2]) := ⟨_, rfl⟩
         replace H : (spec_WayReach.l1 k2 y380 y382 t371 (wrap64 (x8_2 + 1)) a0_0 l0_1) = some r := nh_ hy382 H
         have Ny382 := am hy382
         clear hy382
         have H' := am H
         clear H
         obtain ⟨Ao37, co37, eo37⟩ := Kd.R_slice HO_7.out
         subst eo37
         have p377 : 0 ≤ (x8_2 : Int) := oa
         have q377 : x8_2 < (t371.length : Int) := oa
         obtain ⟨ad377, e377, hx377_0⟩ := Kd.at_int (Kd.R_reads' HO_7.out).2.2 x8_2 p377 q377
         cases e377
         replace p377 := eq_true p377
         replace q377 := eq_true q377
         have p378 : 0 ≤ ((rd t371 x8_2) : Int) := oa
         have q378 : (rd t371 x8_2) < (x5_2.length : Int) := oa
         obtain ⟨ad378, e378, hx378_0⟩ := Kd.at_bool (Kd.R_reads' HO_5.out).2.2 (rd t371 x8_2) p378 q378
         (try rw [← Nbq32.out] at hx378_0)
         obtain rfl : (⟨go9, 0, none⟩ : Addr) = ad378 := (by injection e378)
         (first | simp only [add_plain] at hx378_0 | simp only [add_at] at hx378_0 | simp only [Addr.add, Nat.zero_add] at hx378_0 | skip)
         replace p378 := eq_true p378
         replace q378 := eq_true q378
         have p379 : 0 ≤ (x8_2 : Int) := oa
         have q379 : x8_2 < (t371.length : Int) := oa
         obtain ⟨ad379, e379, hx379_0⟩ := Kd.at_int (Kd.R_reads' HO_7.out).2.2 x8_2 p379 q379
         obtain rfl : ad377 = ad379 := (by injection e379)
         replace p379 := eq_true p379
         replace q379 := eq_true q379
         have p35 : 0 ≤ ((rd t371 x8_2) : Int) := oa
         have q35 : ((rd t371 x8_2) : Int) < ((x5_2.length : Int) : Int) := oa
         obtain ⟨hx35_0, hf35_0⟩ := Kd.R_celln false HO_5.out ((rd t371 x8_2) : Int) p35 q35
         replace p35 := eq_true p35
         replace q35 := eq_true q35
         have HP38 := Kd.R_putg HO_5.out ((rd t371 x8_2) : Int) true
         go_wp2_with (first | ((with_reducible refine gate_store (t := 4) (p := 51) rfl ?_); refine store_event (t := 4) (p := 51) (v := ?vo_w39) (w1 := (wr.setCell ⟨go9, ((rd t371 x8_2) : Int).toNat, none⟩ (.bool true))) ?hg ?ho ?hn ?hr ?_; (case ho => rfl); (case hg => rfl); (case hn => rfl); (case hr => first | (go_simp; done) | (go_simp; rfl)); intro w39 hw; have hg : wr.grownBy w39 (some go9) := (by rw [hw]; exact HP38.2); have hp_ : Kd.R Kd.bool 4 w39 w.heap.size (fun _ => True) (.slice (some ⟨go9, 0, none⟩) x5_2.length co9) y380 := (by rw [hw, Ny380.out]; exact HP38.1); clear HP38; replace HO_6 := am (Kd.Q_over' (v := (.slice (some ⟨go9, 0, none⟩) x5_2.length co9)) (onQ HO_6) (Kd.R_typed HO_5.out) (by decide) hg); replace HO_7 := am (Kd.R_over' (v := (.slice (some ⟨go9, 0, none⟩) x5_2.length co9)) (onR HO_7) (Kd.R_typed HO_5.out) (by decide) hg); replace BK358 := am (blk_grown (bkn BK358) hg (Kd.R_ne HO_5.out BK358.out (by decide))); replace HO_5 := am hp_; replace HB := am (by rw [hw]; exact below_set (HB.out) GB9.out : Below w.heap.size w w39); clear hg hw hp_; have p381 : 0 ≤ (x8_2 : Int) := oa; have q381 : x8_2 < (t371.length : Int) := oa; obtain ⟨ad381, e381, hx381_0⟩ := Kd.at_int (Kd.R_reads' HO_7.out).2.2 x8_2 p381 q381; obtain rfl : ad377 = ad381 := (by injection e381); replace p381 := eq_true p381; replace q381 := eq_true q381) | ((with_reducible refine gate_builtin (b := .append) (xs := #[.tmp 52, .tmp 57]) rfl ?_); at_builtin; refine Kd.Q_append (Kd.int .i64) (w0 := w) w.heap.size rfl (.tmp 52) (.tmp 57) 40 3 (.int .i64 0) 8 rfl Try.underlying40 info3 rfl (by decide) (by omega) u6 x6_2 (rd t371 x8_2) [.int .i64 (rd t371 x8_2)] (fun k_ => some k_ ≠ (.slice (some ad377) t371.length co37 : Value).ownBlock) (fun _ => False) rfl rfl ?aP (fun _ hk => hk.elim) ?aF ?aO ?aB ?aS ?aL ?_; (case aP => exact rfl); (case aB => exact (bn HB)); (case aF => exact (fun k_ hk => Kd.fresh' (Kd.R_lt (onR HO_7)) k_ hk)); (case aO => exact (onQ HO_6)); (case aS => exact (below_size (bn HB))); (case aL => have := LMc36.out; omega); intro v383 w40 ho hb hg hat; rw [← Ny382.out] at ho; replace HO_5 := am (Kd.R_over' (onR HO_5) (Kd.Q_typed (onQ HO_6)) (by decide) hg); replace HO_7 := am (Kd.R_after (ok := (fun _ => True)) (by (with_reducible repeat (first | apply Kd.R_alloc | apply Kd.R_drewN | apply Kd.R_drew)); exact Kd.R_mono HO_7.out (fun _ hk => ⟨trivial, hk⟩)) hg hat); replace BK358 := am (blk_grown (bkn BK358) hg (Kd.Q_ne HO_6.out BK358.out (by decide))); replace HB := am hb; have HO384 := am ho; clear HO_6; clear ho hb hg hat))
         (try simp only [← hl5_2])
         go_roundg k2
         case measure => have := HK1.out; have := HK2.out; omega
         case rel => exact ⟨(y380), (y382), (wrap64 (x8_2 + 1)), (by first | rfl | (simp; done) | (simp [*]; done)), H', ⟨by have := HK1.out; have := HK2.out; omega⟩, ⟨by (try simp only [hl5_1]); (try simp only [hl5_2]); (with_reducible repeat (first | apply Kd.R_alloc | apply Kd.R_drewN | apply Kd.R_drew)); exact HO_5.out⟩, ⟨by (try simp only [hl5_1]); (try simp only [hl5_2]); (with_reducible repeat (first | apply Kd.Q_alloc | apply Kd.Q_drewN | apply Kd.Q_drew)); exact HO384.out⟩, ⟨by (try simp only [hl5_1]); (try simp only [hl5_2]); (with_reducible repeat (first | apply Kd.R_alloc | apply Kd.R_drewN | apply Kd.R_drew)); exact Kd.R_mono HO_7.out (fun _ hk => hk.2)⟩, ⟨by (try simp only [hl5_1]); (try simp only [hl5_2]); (with_reducible repeat (first | refine blk_drewN ?_ _ | refine blk_drew ?_ | refine blk_alloc ?_ _)); exact BK358.out⟩, ⟨bn HB⟩⟩
       ·rw [if_neg c28] at H
        have c28b0 := decide_eq_false c28
        clear c28
        have H' := am H
        clear H
        obtain ⟨Ao41, co41, eo41⟩ := Kd.R_slice HO_7.out
        subst eo41
        go_wp2
        (try simp only [← hl5_1, ← hl5_2])
        go_roundg k2
        case measure => have := HK1.out; have := HK2.out; omega
        case rel => exact ⟨(x5_2), (x6_2), H', ⟨by have := HK1.out; have := HK2.out; omega⟩, ⟨by (try simp only [hl5_1]); (try simp only [hl5_2]); (with_reducible repeat (first | apply Kd.R_alloc | apply Kd.R_drewN | apply Kd.R_drew)); exact HO_5.out⟩, ⟨by (try simp only [hl5_1]); (try simp only [hl5_2]); (with_reducible repeat (first | apply Kd.Q_alloc | apply Kd.Q_drewN | apply Kd.Q_drew)); exact Kd.Q_mono HO_6.out (fun _ hk => trivial)⟩, ⟨by (try simp only [hl5_1]); (try simp only [hl5_2]); (with_reducible repeat (first | refine blk_drewN ?_ _ | refine blk_drew ?_ | refine blk_alloc ?_ _)); exact BK358.out⟩, ⟨bn HB⟩⟩
    ·rw [if_neg c20] at H
     have c20b0 := decide_eq_false c20
     have c20b1 : decide (0 < x6_1.length) = false := decide_eq_false (by omega)
     clear c20
     obtain rfl := Option.some.inj H
     obtain ⟨Ao42, co42, eo42, _⟩ := Kd.Q_slice HO_6.out
     subst eo42
     go_wp2
     go_ret
     exact ⟨_, by first | rfl | (simp [errW_none, errW_some] <;> rfl) | (simp [*, errW_none, errW_some] <;> rfl), onR HO_5, bn HB⟩
 ·replace c4 := Bool.eq_false_iff.mpr c4
  subst c4
  rw [if_neg (show ¬ (false = true) by decide)] at H
  obtain ⟨y360, hy360⟩ : ∃ y_ : List Bool, y_ = (([] : List Bool)) := ⟨_, rfl⟩
  replace H : (some y360) = some r := nh_ hy360 H
  have Ny360 := am hy360
  clear hy360
  obtain rfl := Option.some.inj H
  go_enter Try.func97, Try.ntmps97
  go_wp2_with (first | ((with_reducible refine gate_dst (N := 2) rfl ?_); refine be_ 2 #[.int .i64 a0_0, .slice A0_1 l0_1.length c0_1] 34 ?_; intro gb358 hg w43 hbox hb; have BK358 := am hbox; have GW358 := am (ge_ hg HB); have GE358 := am (ge_ hg HB); replace HB := bs HB hb; clear hb hbox hg; obtain ⟨hcz44_0, hcz44_1, hfz44_0, hfz44_1⟩ := c2 BK358) | ((with_reducible refine gate_callee (f := 87) rfl ?_); refine gl_ (some 11) Try.func87 #[.agg #[.int .i64 a0_0, .slice A0_1 l0_1.length c0_1], .int .i64 a1] ?_; (with_reducible refine (spec_l1Knot.calls k a0_0 _ _ l0_1 a1 false _ ?side1 ?side2 A3.out).mono ?_); (case side1 => exact cb HR0_1 HB); (case side2 => exact HC0_1.out); rintro e w45 ⟨rfl, hb⟩; refine ⟨_, rfl, ?_⟩; replace BK358 := bb BK358 hb; replace HB := bs HB hb; (try clear hb); (try clear hi)) | ((with_reducible refine gate_dst (N := 13) rfl ?_); refine Kd.R_lit Kd.bool _ 4 ?hg (N := 13) ?hd (xs := ([] : List Bool)) (inner := []) (ok := fun _ => True) (okp := fun _ => True) ?hr ?hp (fun _ hk => hk) trivial (Below.refl _ _) (Nat.le_refl _) (by simp) ?_; (case hd => rfl); (case hg => rfl); (case hr => first | (go_simp; done) | (go_simp; rfl)); (case hp => exact (Reps.none _ _)); intro v361 w46 ho47 hb hg_ hnew_; clear hg_ hnew_; (first | rw [← Ny360.out] at ho47 | (simp only [Int.reduceToNat] at ho47; rw [← Ny360.out] at ho47)); have HO362 := am (Kd.R_lower ho47 (below_size (bn HB))); replace BK358 := bb BK358 hb; replace HB := bs HB hb; clear hb ho47))
  go_ret
  exact ⟨_, by first | rfl | (simp [errW_none, errW_some] <;> rfl) | (simp [*, errW_none, errW_some] <;> rfl), onR HO362, bn HB⟩

end Go.Proofs.Ytdlnnjgjfngccaa.F
