-- Written by oprint.py (wip/tools) over the kit's print program, for this seat.
import Derived.Test.YtdlnnjgjfngccaaF0
import Derived.Test.YtdlnnjgjfngccaaF36
import Derived.Test.YtdlnnjgjfngccaaF39
import Derived.Test.YtdlnnjgjfngccaaF7
namespace Go.Proofs.Ytdlnnjgjfngccaa.F
open Go.RowKit Go.Proofs.YtdlnnjgjfngccaaW.PrintWords Go.Proofs.YtdlnnjgjfngccaaW.PrintLast Go.Proofs.YtdlnnjgjfngccaaW.PrintMore
attribute [local go_sem] max2_int min2_int max_two min_two max_three min_three max_four min_four   -- for this text's walks alone
set_option linter.unusedVariables false
set_option linter.unusedSimpArgs false

/-! ### laws_FnExactFlowParts: function 8 -/
def laws_FnExactFlowParts.f (k : Nat) (a0_0 : Int) (l0_1 : List (S96)) (a1 : Int) (a2 : Int) (l3 : List (S96)) : Option (Bool) := (laws_szNet.f a0_0 l0_1 1048576).bind fun t538 => (if t538 < 0 then (some true) else ((laws_szTieS.f l3 t538).bind fun t539 => (if t539 < 0 then (some true) else ((laws_toNet.f k a0_0 l0_1).bind fun bt540 => ((laws_toTieS.f k l3).bind fun t544 => ((spec_FlowParts.f k bt540.1 bt540.2 a1 a2 t544).bind fun t547 => ((laws_toNet.f k a0_0 l0_1).bind fun bt548 => ((laws_toTieS.f k l3).bind fun t553 => ((impl_FlowParts.f k bt548.1 bt548.2 a1 a2 t553).bind fun t556 => (if (t556 != t547) = true then (some false) else ((laws_toNet.f k a0_0 l0_1).bind fun bt557 => ((laws_eqNet.f k bt548.1 bt548.2 bt557.1 bt557.2).bind fun t561 => (if t561 = true then ((laws_toTieS.f k l3).bind fun t562 => ((laws_eqTieS.f k t553 t562).bind fun t565 => (if t565 = true then (some true) else (some false)))) else (some false))))))))))))))
theorem laws_FnExactFlowParts.mono : ∀ a0 a1 a2 a3 a4 k, LeO (laws_FnExactFlowParts.f k a0 a1 a2 a3 a4) (laws_FnExactFlowParts.f (k + 1) a0 a1 a2 a3 a4) := by
 intro a0 a1 a2 a3 a4 k
 unfold laws_FnExactFlowParts.f
 repeat' first
   | (with_reducible exact impl_FlowParts.mono _ _ _ _ _ _)
   | (with_reducible exact laws_eqNet.mono _ _ _ _ _)
   | (with_reducible exact laws_eqTieS.mono _ _ _)
   | (with_reducible exact laws_toNet.mono _ _ _)
   | (with_reducible exact laws_toTieS.mono _ _)
   | (with_reducible exact spec_FlowParts.mono _ _ _ _ _ _)
   | (with_reducible exact LeO.refl _)
   | (with_reducible exact LeO.none _)
   | (with_reducible refine LeO.ite ?_ ?_)
   | (with_reducible refine LeO.bind ?_ (fun _ => ?_))
   | exact impl_FlowParts.mono _ _ _ _ _ _
   | exact laws_eqNet.mono _ _ _ _ _
   | exact laws_eqTieS.mono _ _ _
   | exact laws_toNet.mono _ _ _
   | exact laws_toTieS.mono _ _
   | exact spec_FlowParts.mono _ _ _ _ _ _
   | exact LeO.none _
   | refine LeO.ite ?_ ?_
   | refine LeO.bind ?_ (fun _ => ?_)
set_option maxHeartbeats 8000000 in
set_option maxRecDepth 100000 in
theorem laws_FnExactFlowParts.calls (k : Nat) (a0_0 : Int) (A0_1 : Option Addr) (c0_1 : Nat) (l0_1 : List (S96)) (a1 : Int) (a2 : Int) (A3 : Option Addr) (c3 : Nat) (l3 : List (S96)) (r : Bool) (w : World) (hr0_1 : Kd.C k96 w A0_1 l0_1.length l0_1) (hc0_1 : l0_1.length ≤ c0_1) (hr3 : Kd.C k96 w A3 l3.length l3) (hc3 : l3.length ≤ c3) (hrt : Aside0 (r = true)) (h : laws_FnExactFlowParts.f k a0_0 l0_1 a1 a2 l3 = some r) :
  Calls Try.prog 8 #[.agg #[.int .i64 a0_0, .slice A0_1 l0_1.length c0_1], .int .i64 a1, .int .i64 a2, .slice A3 l3.length c3] w fun e w' => e = .returned (.bool r) ∧ Below w.heap.size w w' := by
 have hu29 := Try.underlying29
 have hu34 := Try.underlying34
 have HR0_1 := Aside0.mk hr0_1
 have HC0_1 := Aside0.mk hc0_1
 clear hr0_1 hc0_1
 have HR3 := Aside0.mk hr3
 have HC3 := Aside0.mk hc3
 clear hr3 hc3
 have HB := Aside0.mk (Below.refl w.heap.size w)
 have H : ((laws_szNet.f a0_0 l0_1 1048576).bind fun t538 => (if t538 < 0 then (some true) else ((laws_szTieS.f l3 t538).bind fun t539 => (if t539 < 0 then (some true) else ((laws_toNet.f k a0_0 l0_1).bind fun bt540 => ((laws_toTieS.f k l3).bind fun t544 => ((spec_FlowParts.f k bt540.1 bt540.2 a1 a2 t544).bind fun t547 => ((laws_toNet.f k a0_0 l0_1).bind fun bt548 => ((laws_toTieS.f k l3).bind fun t553 => ((impl_FlowParts.f k bt548.1 bt548.2 a1 a2 t553).bind fun t556 => (if (t556 != t547) = true then (some false) else ((laws_toNet.f k a0_0 l0_1).bind fun bt557 => ((laws_eqNet.f k bt548.1 bt548.2 bt557.1 bt557.2).bind fun t561 => (if t561 = true then ((laws_toTieS.f k l3).bind fun t562 => ((laws_eqTieS.f k t553 t562).bind fun t565 => (if t565 = true then (some true) else (some false)))) else (some false))))))))))))))) = some r := h
 clear h
 replace H := Option.bind_eq_some_iff.mp H
 obtain ⟨t538, A50, H⟩ := H
 (try dsimp only at H)
 have A5 := Aside0.mk A50
 clear A50
 by_cases c6 : t538 < 0
 ·rw [if_pos c6] at H
  have c6b0 := decide_eq_true c6
  clear c6
  obtain rfl := Option.some.inj H
  go_enter Try.func8, Try.ntmps8
  go_wp2_with (first | ((with_reducible refine gate_dst (N := 4) rfl ?_); refine box_event ?hg (N := 4) ?hd (cs := #[.int .i64 a0_0, .slice A0_1 l0_1.length c0_1]) (t := 29) ?hr ?_; (case hd => rfl); (case hg => rfl); (case hr => first | (go_simp; done) | (go_simp; rfl)); intro gb537 hg w7 hbox hb; have n0_ := Aside0.mk (below_step (bn HB) hb); have n1_ := Aside0.mk (hbox); have n2_ := Aside0.mk ((by rw [hg]; exact (below_size (bn HB)) : w.heap.size ≤ gb537)); have n3_ := Aside0.mk ((by rw [hg]; exact (below_size (bn HB)) : w.heap.size ≤ gb537)); clear HB; have HB := n0_; have BK537 := n1_; have GW537 := n2_; have GE537 := n3_; clear n0_ n1_ n2_ n3_; clear hb hbox hg; have hcz8_0 := bc BK537 0; have hcz8_1 := bc BK537 1; have hfz8_0 := blk_frozen BK537.out 0; have hfz8_1 := blk_frozen BK537.out 1) | ((with_reducible refine gate_callee (f := 30) rfl ?_); refine gl_ (some 16) Try.func30 #[.agg #[.int .i64 a0_0, .slice A0_1 l0_1.length c0_1], .int .i64 1048576] ?_; (with_reducible refine (laws_szNet.calls a0_0 _ _ l0_1 1048576 t538 _ ?side1 ?side2 A5.out).mono ?_); (case side1 => repeat (first | exact (Kd.C_below HR0_1.out HB.out) | (with_reducible refine Kd.C_alloc ?_ _) | (with_reducible refine Kd.C_drewN ?_ _) | (with_reducible refine Kd.C_drew ?_))); (case side2 => exact HC0_1.out); rintro e w9 ⟨rfl, hb⟩; refine ⟨_, rfl, ?_⟩; have n0_ := Aside0.mk (blk_below (bkn BK537) hb); have n1_ := Aside0.mk (below_step (bn HB) hb); clear BK537; clear HB; have BK537 := n0_; have HB := n1_; clear n0_ n1_; (try clear hb); (try clear hi)))
  go_ret
  exact ⟨by first | rfl | (simp [errW_none, errW_some] <;> rfl) | (simp [*, errW_none, errW_some] <;> rfl), bn HB⟩
 ·rw [if_neg c6] at H
  have c6b0 := decide_eq_false c6
  clear c6
  replace H := Option.bind_eq_some_iff.mp H
  obtain ⟨t539, A100, H⟩ := H
  (try dsimp only at H)
  have A10 := Aside0.mk A100
  clear A100
  by_cases c11 : t539 < 0
  ·rw [if_pos c11] at H
   have c11b0 := decide_eq_true c11
   clear c11
   obtain rfl := Option.some.inj H
   go_enter Try.func8, Try.ntmps8
   go_wp2_with (first | ((with_reducible refine gate_dst (N := 4) rfl ?_); refine box_event ?hg (N := 4) ?hd (cs := #[.int .i64 a0_0, .slice A0_1 l0_1.length c0_1]) (t := 29) ?hr ?_; (case hd => rfl); (case hg => rfl); (case hr => first | (go_simp; done) | (go_simp; rfl)); intro gb537 hg w12 hbox hb; have n0_ := Aside0.mk (below_step (bn HB) hb); have n1_ := Aside0.mk (hbox); have n2_ := Aside0.mk ((by rw [hg]; exact (below_size (bn HB)) : w.heap.size ≤ gb537)); have n3_ := Aside0.mk ((by rw [hg]; exact (below_size (bn HB)) : w.heap.size ≤ gb537)); clear HB; have HB := n0_; have BK537 := n1_; have GW537 := n2_; have GE537 := n3_; clear n0_ n1_ n2_ n3_; clear hb hbox hg; have hcz13_0 := bc BK537 0; have hcz13_1 := bc BK537 1; have hfz13_0 := blk_frozen BK537.out 0; have hfz13_1 := blk_frozen BK537.out 1) | ((with_reducible refine gate_callee (f := 30) rfl ?_); refine gl_ (some 16) Try.func30 #[.agg #[.int .i64 a0_0, .slice A0_1 l0_1.length c0_1], .int .i64 1048576] ?_; (with_reducible refine (laws_szNet.calls a0_0 _ _ l0_1 1048576 t538 _ ?side1 ?side2 A5.out).mono ?_); (case side1 => repeat (first | exact (Kd.C_below HR0_1.out HB.out) | (with_reducible refine Kd.C_alloc ?_ _) | (with_reducible refine Kd.C_drewN ?_ _) | (with_reducible refine Kd.C_drew ?_))); (case side2 => exact HC0_1.out); rintro e w14 ⟨rfl, hb⟩; refine ⟨_, rfl, ?_⟩; have n0_ := Aside0.mk (blk_below (bkn BK537) hb); have n1_ := Aside0.mk (below_step (bn HB) hb); clear BK537; clear HB; have BK537 := n0_; have HB := n1_; clear n0_ n1_; (try clear hb); (try clear hi)) | ((with_reducible refine gate_callee (f := 43) rfl ?_); refine gl_ (some 21) Try.func43 #[.slice A3 l3.length c3, .int .i64 t538] ?_; (with_reducible refine (laws_szTieS.calls _ _ l3 t538 t539 _ ?side1 ?side2 A10.out).mono ?_); (case side1 => repeat (first | exact (Kd.C_below HR3.out HB.out) | (with_reducible refine Kd.C_alloc ?_ _) | (with_reducible refine Kd.C_drewN ?_ _) | (with_reducible refine Kd.C_drew ?_))); (case side2 => exact HC3.out); rintro e w' ⟨rfl, ⟨nd, rfl⟩⟩; refine ⟨_, rfl, ?_⟩))
   go_ret
   exact ⟨by first | rfl | (simp [errW_none, errW_some] <;> rfl) | (simp [*, errW_none, errW_some] <;> rfl), bn HB⟩
  ·rw [if_neg c11] at H
   have c11b0 := decide_eq_false c11
   clear c11
   replace H := Option.bind_eq_some_iff.mp H
   obtain ⟨⟨t540, t541⟩, A150, H⟩ := H
   (try dsimp only at H)
   have A15 := Aside0.mk A150
   clear A150
   replace H := Option.bind_eq_some_iff.mp H
   obtain ⟨t544, A160, H⟩ := H
   (try dsimp only at H)
   have A16 := Aside0.mk A160
   clear A160
   replace H := Option.bind_eq_some_iff.mp H
   obtain ⟨t547, A170, H⟩ := H
   (try dsimp only at H)
   have A17 := Aside0.mk A170
   clear A170
   replace H := Option.bind_eq_some_iff.mp H
   obtain ⟨⟨t548, t549⟩, A180, H⟩ := H
   (try dsimp only at H)
   have A18 := Aside0.mk A180
   clear A180
   replace H := Option.bind_eq_some_iff.mp H
   obtain ⟨t553, A190, H⟩ := H
   (try dsimp only at H)
   have A19 := Aside0.mk A190
   clear A190
   replace H := Option.bind_eq_some_iff.mp H
   obtain ⟨t556, A200, H⟩ := H
   (try dsimp only at H)
   have A20 := Aside0.mk A200
   clear A200
   by_cases c21 : (t556 != t547) = true
   ·rw [if_pos c21] at H
    have c21b0 : (t556 != t547) = true := c21
    (try (have c21b1 : decide (t556 = t547) = false := by simpa using c21))
    (try (have c21b2 : (t556 == t547) = false := by simpa using c21))
    (try (have c21b3 : ¬ (t556 = t547) := by simpa using c21))
    clear c21
    exact absurd (Option.some.inj H) (by rw [hrt.out]; decide)
   ·rw [if_neg c21] at H
    have c21b0 : (t556 != t547) = false := by simpa using c21
    (try (have c21b1 : decide (t556 = t547) = true := by simpa using c21))
    (try (have c21b2 : (t556 == t547) = true := by simpa using c21))
    clear c21
    replace H := Option.bind_eq_some_iff.mp H
    obtain ⟨⟨t557, t558⟩, A220, H⟩ := H
    (try dsimp only at H)
    have A22 := Aside0.mk A220
    clear A220
    replace H := Option.bind_eq_some_iff.mp H
    obtain ⟨t561, A230, H⟩ := H
    (try dsimp only at H)
    have A23 := Aside0.mk A230
    clear A230
    by_cases c24 : t561 = true
    ·subst c24
     rw [if_pos rfl] at H
     replace H := Option.bind_eq_some_iff.mp H
     obtain ⟨t562, A250, H⟩ := H
     (try dsimp only at H)
     have A25 := Aside0.mk A250
     clear A250
     replace H := Option.bind_eq_some_iff.mp H
     obtain ⟨t565, A260, H⟩ := H
     (try dsimp only at H)
     have A26 := Aside0.mk A260
     clear A260
     by_cases c27 : t565 = true
     ·subst c27
      rw [if_pos rfl] at H
      obtain rfl := Option.some.inj H
      go_enter Try.func8, Try.ntmps8
      try go_wp2_with (first | ((with_reducible refine gate_dst (N := 4) rfl ?_); refine box_event ?hg (N := 4) ?hd (cs := #[.int .i64 a0_0, .slice A0_1 l0_1.length c0_1]) (t := 29) ?hr ?_; (case hd => rfl); (case hg => rfl); (case hr => first | (go_simp; done) | (go_simp; rfl)); intro gb537 hg w28 hbox hb; have n0_ := Aside0.mk (below_step (bn HB) hb); have n1_ := Aside0.mk (hbox); have n2_ := Aside0.mk ((by rw [hg]; exact (below_size (bn HB)) : w.heap.size ≤ gb537)); have n3_ := Aside0.mk ((by rw [hg]; exact (below_size (bn HB)) : w.heap.size ≤ gb537)); clear HB; have HB := n0_; have BK537 := n1_; have GW537 := n2_; have GE537 := n3_; clear n0_ n1_ n2_ n3_; clear hb hbox hg; have hcz29_0 := bc BK537 0; have hcz29_1 := bc BK537 1; have hfz29_0 := blk_frozen BK537.out 0; have hfz29_1 := blk_frozen BK537.out 1) | ((with_reducible refine gate_callee (f := 30) rfl ?_); refine gl_ (some 16) Try.func30 #[.agg #[.int .i64 a0_0, .slice A0_1 l0_1.length c0_1], .int .i64 1048576] ?_; (with_reducible refine (laws_szNet.calls a0_0 _ _ l0_1 1048576 t538 _ ?side1 ?side2 A5.out).mono ?_); (case side1 => repeat (first | exact (Kd.C_below HR0_1.out HB.out) | (with_reducible refine Kd.C_alloc ?_ _) | (with_reducible refine Kd.C_drewN ?_ _) | (with_reducible refine Kd.C_drew ?_))); (case side2 => exact HC0_1.out); rintro e w30 ⟨rfl, hb⟩; refine ⟨_, rfl, ?_⟩; have n0_ := Aside0.mk (blk_below (bkn BK537) hb); have n1_ := Aside0.mk (below_step (bn HB) hb); clear BK537; clear HB; have BK537 := n0_; have HB := n1_; clear n0_ n1_; (try clear hb); (try clear hi)) | ((with_reducible refine gate_callee (f := 43) rfl ?_); refine gl_ (some 21) Try.func43 #[.slice A3 l3.length c3, .int .i64 t538] ?_; (with_reducible refine (laws_szTieS.calls _ _ l3 t538 t539 _ ?side1 ?side2 A10.out).mono ?_); (case side1 => repeat (first | exact (Kd.C_below HR3.out HB.out) | (with_reducible refine Kd.C_alloc ?_ _) | (with_reducible refine Kd.C_drewN ?_ _) | (with_reducible refine Kd.C_drew ?_))); (case side2 => exact HC3.out); rintro e w' ⟨rfl, ⟨nd, rfl⟩⟩; refine ⟨_, rfl, ?_⟩; (try (rw [drewN_self w30]; generalize hq_ : World.drewN w30 _ = w30; have n0_ : Aside0 (w30.heap[gb537]? = some (.cells #[.int .i64 a0_0, .slice A0_1 l0_1.length c0_1] 29 (0, 0))) := ⟨by rw [← hq_]; exact (bkn BK537)⟩; have n1_ : Aside0 (Below w.heap.size w w30) := ⟨by rw [← hq_]; exact (bn HB)⟩; clear BK537 HB hq_; have BK537 := n0_; have HB := n1_; clear n0_ n1_)); have hcz31_0 := bc BK537 0; have hcz31_1 := bc BK537 1; have hfz31_0 := blk_frozen BK537.out 0; have hfz31_1 := blk_frozen BK537.out 1) | ((with_reducible refine gate_callee (f := 32) rfl ?_); refine gl_ (some 25) Try.func32 #[.agg #[.int .i64 a0_0, .slice A0_1 l0_1.length c0_1]] ?_; (with_reducible refine (laws_toNet.calls k a0_0 _ _ l0_1 t540 t541 _ ?side1 ?side2 A15.out).mono ?_); (case side1 => repeat (first | exact (Kd.C_below HR0_1.out HB.out) | (with_reducible refine Kd.C_alloc ?_ _) | (with_reducible refine Kd.C_drewN ?_ _) | (with_reducible refine Kd.C_drew ?_))); (case side2 => exact HC0_1.out); rintro e w32 ⟨v542, rfl, ho0, hb⟩; refine ⟨_, rfl, ?_⟩; have n0_ := Aside0.mk (Kd.R_lower ho0 (below_size (bn HB))); have n1_ := Aside0.mk (blk_below (bkn BK537) hb); have n2_ := Aside0.mk (below_step (bn HB) hb); clear BK537; clear HB; have HO543 := n0_; have BK537 := n1_; have HB := n2_; clear n0_ n1_ n2_; (try clear hb); (try clear ho0)) | ((with_reducible refine gate_callee (f := 45) rfl ?_); refine gl_ (some 29) Try.func45 #[.slice A3 l3.length c3] ?_; (with_reducible refine (laws_toTieS.calls k _ _ l3 t544 _ ?side1 ?side2 A16.out).mono ?_); (case side1 => repeat (first | exact (Kd.C_below HR3.out HB.out) | (with_reducible refine Kd.C_alloc ?_ _) | (with_reducible refine Kd.C_drewN ?_ _) | (with_reducible refine Kd.C_drew ?_))); (case side2 => exact HC3.out); rintro e w33 ⟨v545, rfl, ho0, hb⟩; refine ⟨_, rfl, ?_⟩; have n0_ := Aside0.mk (Kd.R_elder' (onR HO543) (Kd.R_base ho0) hb); have n1_ := Aside0.mk (Kd.R_lower (Kd.R_new' ho0 (Kd.R_lt (onR HO543))) (below_size (bn HB))); have n2_ := Aside0.mk (blk_below (bkn BK537) hb); have n3_ := Aside0.mk (below_step (bn HB) hb); clear HO543; clear BK537; clear HB; have HO543 := n0_; have HO546 := n1_; have BK537 := n2_; have HB := n3_; clear n0_ n1_ n2_ n3_; (try clear hb); (try clear ho0); obtain ⟨Ao34, co34, eo34⟩ := Kd.R_slice HO543.out; subst eo34; obtain ⟨Ao35, co35, eo35⟩ := Kd.R_slice HO546.out; subst eo35) | ((with_reducible refine gate_callee (f := 44) rfl ?_); refine gl_ (some 30) Try.func44 #[.agg #[.int .i64 t540, .slice Ao34 t541.length co34], .int .i64 a1, .int .i64 a2, .slice Ao35 t544.length co35] ?_; (with_reducible refine (spec_FlowParts.calls k t540 _ _ t541 a1 a2 _ _ t544 t547 _ ?side1 ?side2 ?side3 ?side4 A17.out).mono ?_); (case side1 => repeat (first | exact (Kd.R_reads' HO543.out).2.2 | (with_reducible refine Kd.C_alloc ?_ _) | (with_reducible refine Kd.C_drewN ?_ _) | (with_reducible refine Kd.C_drew ?_))); (case side2 => exact (Kd.R_reads' HO543.out).2.1); (case side3 => repeat (first | exact (Kd.R_reads' HO546.out).2.2 | (with_reducible refine Kd.C_alloc ?_ _) | (with_reducible refine Kd.C_drewN ?_ _) | (with_reducible refine Kd.C_drew ?_))); (case side4 => exact (Kd.R_reads' HO546.out).2.1); rintro e w36 ⟨rfl, hb⟩; refine ⟨_, rfl, ?_⟩; have n0_ := Aside0.mk (Kd.R_below (onR HO543) hb); have n1_ := Aside0.mk (Kd.R_below (onR HO546) hb); have n2_ := Aside0.mk (blk_below (bkn BK537) hb); have n3_ := Aside0.mk (below_step (bn HB) hb); clear HO543; clear HO546; clear BK537; clear HB; have HO543 := n0_; have HO546 := n1_; have BK537 := n2_; have HB := n3_; clear n0_ n1_ n2_ n3_; (try clear hb); have hcz37_0 := bc BK537 0; have hcz37_1 := bc BK537 1; have hfz37_0 := blk_frozen BK537.out 0; have hfz37_1 := blk_frozen BK537.out 1) | ((with_reducible refine gate_callee (f := 32) rfl ?_); refine gl_ (some 32) Try.func32 #[.agg #[.int .i64 a0_0, .slice A0_1 l0_1.length c0_1]] ?_; (with_reducible refine (laws_toNet.calls k a0_0 _ _ l0_1 t548 t549 _ ?side1 ?side2 A18.out).mono ?_); (case side1 => repeat (first | exact (Kd.C_below HR0_1.out HB.out) | (with_reducible refine Kd.C_alloc ?_ _) | (with_reducible refine Kd.C_drewN ?_ _) | (with_reducible refine Kd.C_drew ?_))); (case side2 => exact HC0_1.out); rintro e w38 ⟨v550, rfl, ho0, hb⟩; refine ⟨_, rfl, ?_⟩; have n0_ := Aside0.mk (Kd.R_elder' (onR HO543) (Kd.R_base ho0) hb); have n1_ := Aside0.mk (Kd.R_elder' (onR HO546) (Kd.R_base ho0) hb); have n2_ := Aside0.mk (Kd.R_lower (Kd.R_new' (Kd.R_new' ho0 (Kd.R_lt (onR HO543))) (Kd.R_lt (onR HO546))) (below_size (bn HB))); have n3_ := Aside0.mk (blk_below (bkn BK537) hb); have n4_ := Aside0.mk (below_step (bn HB) hb); clear HO543; clear HO546; clear BK537; clear HB; have HO543 := n0_; have HO546 := n1_; have HO551 := n2_; have BK537 := n3_; have HB := n4_; clear n0_ n1_ n2_ n3_ n4_; (try clear hb); (try clear ho0)) | ((with_reducible refine gate_dst (N := 11) rfl ?_); refine box_event ?hg (N := 11) ?hd (cs := #[.int .i64 0, .slice none 0 0]) (t := 34) ?hr ?_; (case hd => rfl); (case hg => rfl); (case hr => first | (go_simp; done) | (go_simp; rfl)); intro gb552 hg w39 hbox hb; have n0_ := Aside0.mk (Kd.R_below (onR HO543) hb); have n1_ := Aside0.mk (Kd.R_below (onR HO546) hb); have n2_ := Aside0.mk (Kd.R_below (onR HO551) hb); have n3_ := Aside0.mk (blk_below (bkn BK537) hb); have n4_ := Aside0.mk (below_step (bn HB) hb); have n5_ := Aside0.mk (hbox); have n6_ := Aside0.mk ((by rw [hg]; exact (below_size (bn HB)) : w.heap.size ≤ gb552)); have n7_ := Aside0.mk ((by rw [hg]; exact (below_size (bn HB)) : w.heap.size ≤ gb552)); have n8_ := Aside0.mk ((by rw [hg]; exact Nat.ne_of_lt (blk_lt (bkn BK537)) : gb537 ≠ gb552)); have n9_ := Aside0.mk ((by rw [hg]; exact Nat.ne_of_gt (blk_lt (bkn BK537)) : gb552 ≠ gb537)); clear HO543; clear HO546; clear HO551; clear BK537; clear HB; have HO543 := n0_; have HO546 := n1_; have HO551 := n2_; have BK537 := n3_; have HB := n4_; have BK552 := n5_; have GW552 := n6_; have GE552 := n7_; have NB537_552 := n8_; have NB552_537 := n9_; clear n0_ n1_ n2_ n3_ n4_ n5_ n6_ n7_ n8_ n9_; clear hb hbox hg; have hnb40 := NB552_537.out; have hnc40 := NB537_552.out; have hcz41_0 := bc BK552 0; have hcz41_1 := bc BK552 1; have hfz41_0 := blk_frozen BK552.out 0; have hfz41_1 := blk_frozen BK552.out 1; obtain ⟨Ao42, co42, eo42⟩ := Kd.R_slice HO551.out; subst eo42) | ((with_reducible refine gate_callee (f := 45) rfl ?_); refine gl_ (some 34) Try.func45 #[.slice A3 l3.length c3] ?_; (with_reducible refine (laws_toTieS.calls k _ _ l3 t553 _ ?side1 ?side2 A19.out).mono ?_); (case side1 => exact Kd.C_below HR3.out (bn HB)); (case side2 => exact HC3.out); rintro e w43 ⟨v554, rfl, ho0, hb⟩; refine ⟨_, rfl, ?_⟩; have n0_ := Aside0.mk (Kd.R_elder' (by (with_reducible repeat (first | apply Kd.R_alloc | apply Kd.R_drewN | apply Kd.R_drew)); exact (Kd.R_mono (Kd.R_far (p := ⟨gb552, 1, none⟩) (Kd.R_far (p := ⟨gb552, 0, none⟩) (Kd.R_types HO543.out BK552.out (by decide)) (fun _ hk => hk.2) (.int .i64 t548)) (fun _ hk => hk.2) (.slice Ao42 t549.length co42)) (fun _ h_ => h_.1))) (Kd.R_base ho0) hb); have n1_ := Aside0.mk (Kd.R_elder' (by (with_reducible repeat (first | apply Kd.R_alloc | apply Kd.R_drewN | apply Kd.R_drew)); exact (Kd.R_mono (Kd.R_far (p := ⟨gb552, 1, none⟩) (Kd.R_far (p := ⟨gb552, 0, none⟩) (Kd.R_types HO546.out BK552.out (by decide)) (fun _ hk => hk.2) (.int .i64 t548)) (fun _ hk => hk.2) (.slice Ao42 t549.length co42)) (fun _ h_ => h_.1))) (Kd.R_base ho0) hb); have n2_ := Aside0.mk (Kd.R_elder' (by (with_reducible repeat (first | apply Kd.R_alloc | apply Kd.R_drewN | apply Kd.R_drew)); exact (Kd.R_mono (Kd.R_far (p := ⟨gb552, 1, none⟩) (Kd.R_far (p := ⟨gb552, 0, none⟩) (Kd.R_types HO551.out BK552.out (by decide)) (fun _ hk => hk.2) (.int .i64 t548)) (fun _ hk => hk.2) (.slice Ao42 t549.length co42)) (fun _ h_ => h_.1))) (Kd.R_base ho0) hb); have n3_ := Aside0.mk (Kd.R_lower (Kd.R_new' (Kd.R_new' (Kd.R_new' ho0 (Kd.R_lt (by (with_reducible repeat (first | apply Kd.R_alloc | apply Kd.R_drewN | apply Kd.R_drew)); exact (Kd.R_mono (Kd.R_far (p := ⟨gb552, 1, none⟩) (Kd.R_far (p := ⟨gb552, 0, none⟩) (Kd.R_types HO543.out BK552.out (by decide)) (fun _ hk => hk.2) (.int .i64 t548)) (fun _ hk => hk.2) (.slice Ao42 t549.length co42)) (fun _ h_ => h_.1))))) (Kd.R_lt (by (with_reducible repeat (first | apply Kd.R_alloc | apply Kd.R_drewN | apply Kd.R_drew)); exact (Kd.R_mono (Kd.R_far (p := ⟨gb552, 1, none⟩) (Kd.R_far (p := ⟨gb552, 0, none⟩) (Kd.R_types HO546.out BK552.out (by decide)) (fun _ hk => hk.2) (.int .i64 t548)) (fun _ hk => hk.2) (.slice Ao42 t549.length co42)) (fun _ h_ => h_.1))))) (Kd.R_lt (by (with_reducible repeat (first | apply Kd.R_alloc | apply Kd.R_drewN | apply Kd.R_drew)); exact (Kd.R_mono (Kd.R_far (p := ⟨gb552, 1, none⟩) (Kd.R_far (p := ⟨gb552, 0, none⟩) (Kd.R_types HO551.out BK552.out (by decide)) (fun _ hk => hk.2) (.int .i64 t548)) (fun _ hk => hk.2) (.slice Ao42 t549.length co42)) (fun _ h_ => h_.1))))) (below_size (bn HB))); have n4_ := Aside0.mk (blk_below (bkn BK537) hb); have n5_ := Aside0.mk (blk_below (g := gb552) (o := .cells #[.int .i64 t548, .slice Ao42 t549.length co42] 34 (0, 0)) (by (with_reducible repeat (first | refine blk_drewN ?_ _ | refine blk_drew ?_ | refine blk_alloc ?_ _)); refine blk_put (cs := #[.int .i64 t548, .slice none 0 0]) ?_ 1 _ rfl; (with_reducible repeat (first | refine blk_drewN ?_ _ | refine blk_drew ?_ | refine blk_alloc ?_ _)); refine blk_put (cs := #[.int .i64 0, .slice none 0 0]) ?_ 0 _ rfl; (with_reducible repeat (first | refine blk_drewN ?_ _ | refine blk_drew ?_ | refine blk_alloc ?_ _)); exact BK552.out) hb); have n6_ := Aside0.mk (below_step (bn HB) hb); clear HO543; clear HO546; clear HO551; clear BK537; clear BK552; clear HB; have HO543 := n0_; have HO546 := n1_; have HO551 := n2_; have HO555 := n3_; have BK537 := n4_; have BK552 := n5_; have HB := n6_; clear n0_ n1_ n2_ n3_ n4_ n5_ n6_; (try clear hb); (try clear ho0); have hcz44_0 := bc BK552 0; have hcz44_1 := bc BK552 1; have hfz44_0 := blk_frozen BK552.out 0; have hfz44_1 := blk_frozen BK552.out 1; obtain ⟨Ao45, co45, eo45⟩ := Kd.R_slice HO555.out; subst eo45) | ((with_reducible refine gate_callee (f := 46) rfl ?_); refine gl_ (some 39) Try.func46 #[.agg #[.int .i64 t548, .slice Ao42 t549.length co42], .int .i64 a1, .int .i64 a2, .slice Ao45 t553.length co45] ?_; (with_reducible refine (impl_FlowParts.calls k t548 _ _ t549 a1 a2 _ _ t553 t556 _ ?side1 ?side2 ?side3 ?side4 A20.out).mono ?_); (case side1 => repeat (first | exact (Kd.R_reads' HO551.out).2.2 | (with_reducible refine Kd.C_alloc ?_ _) | (with_reducible refine Kd.C_drewN ?_ _) | (with_reducible refine Kd.C_drew ?_))); (case side2 => exact (Kd.R_reads' HO551.out).2.1); (case side3 => repeat (first | exact (Kd.R_reads' HO555.out).2.2 | (with_reducible refine Kd.C_alloc ?_ _) | (with_reducible refine Kd.C_drewN ?_ _) | (with_reducible refine Kd.C_drew ?_))); (case side4 => exact (Kd.R_reads' HO555.out).2.1); rintro e w46 ⟨rfl, hb⟩; refine ⟨_, rfl, ?_⟩; have n0_ := Aside0.mk (Kd.R_below (onR HO543) hb); have n1_ := Aside0.mk (Kd.R_below (onR HO546) hb); have n2_ := Aside0.mk (Kd.R_below (onR HO551) hb); have n3_ := Aside0.mk (Kd.R_below (onR HO555) hb); have n4_ := Aside0.mk (blk_below (bkn BK537) hb); have n5_ := Aside0.mk (blk_below (bkn BK552) hb); have n6_ := Aside0.mk (below_step (bn HB) hb); clear HO543; clear HO546; clear HO551; clear HO555; clear BK537; clear BK552; clear HB; have HO543 := n0_; have HO546 := n1_; have HO551 := n2_; have HO555 := n3_; have BK537 := n4_; have BK552 := n5_; have HB := n6_; clear n0_ n1_ n2_ n3_ n4_ n5_ n6_; (try clear hb); (try clear hi)))
      have n0_ := Aside0.mk (Kd.R_drew HO543.out)
      have n1_ := Aside0.mk (Kd.R_drew HO546.out)
      have n2_ := Aside0.mk (Kd.R_drew HO551.out)
      have n3_ := Aside0.mk (Kd.R_drew HO555.out)
      have n4_ := Aside0.mk (blk_drew BK537.out)
      have n5_ := Aside0.mk (blk_drew BK552.out)
      have n6_ := Aside0.mk (below_drew1 HB.out)
      clear HO543 HO546 HO551 HO555 BK537 BK552 HB
      have HO543 := n0_
      have HO546 := n1_
      have HO551 := n2_
      have HO555 := n3_
      have BK537 := n4_
      have BK552 := n5_
      have HB := n6_
      clear n0_ n1_ n2_ n3_ n4_ n5_ n6_
      refine start_ (n := 5) (S := fun w' => w'.cell? ⟨gb552, 0, none⟩ = some (.int .i64 t548) ∧ w'.cell? ⟨gb552, 1, none⟩ = some (.slice Ao42 t549.length co42) ∧ w'.cell? ⟨gb537, 0, none⟩ = some (.int .i64 a0_0) ∧ w'.cell? ⟨gb537, 1, none⟩ = some (.slice A0_1 l0_1.length c0_1)) (ds := []) #[false, false, false, false, false] (by kernel_rfl) rfl rfl ⟨(blk_cell BK552.out 0).trans rfl, (blk_cell BK552.out 1).trans rfl, (blk_cell BK537.out 0).trans rfl, (blk_cell BK537.out 1).trans rfl⟩ (fun hHeld => ?_)
      generalize w46.drew = w47 at HO543 HO546 HO551 HO555 BK537 BK552 HB hHeld ⊢
      refine take_ (i := 0) (N := some 43) (v := ?_) (a' := ?_) #[true, false, false, false, false] rfl rfl (by kernel_rfl) (fun _ _ _ h => h) (Or.inl ⟨by rfl, ?_⟩) hHeld ?_ ?_; rotate_left; (rintro w' ⟨s0, s1, s2, s3⟩; go_simp; with_reducible rfl); rotate_left; (simp only [Act.put, List.setIfInBounds_toArray, List.set_cons_zero, List.set_cons_succ, i64_w, i32_w]; rfl)
      refine take_ (i := 1) (N := some 44) (v := ?_) (a' := ?_) #[true, true, false, false, false] rfl rfl (by kernel_rfl) (fun _ _ _ h => h) (Or.inl ⟨by rfl, ?_⟩) hHeld ?_ ?_; rotate_left; (rintro w' ⟨s0, s1, s2, s3⟩; go_simp; with_reducible rfl); rotate_left; (simp only [Act.put, List.setIfInBounds_toArray, List.set_cons_zero, List.set_cons_succ, i64_w, i32_w]; rfl)
      refine one_ (i := 2) (N := some 45) #[true, true, true, false, false] rfl rfl (by kernel_rfl) (by decide) (fun K hK => ?_)
      refine gg_ Try.func32 #[.agg #[.int .i64 a0_0, .slice A0_1 l0_1.length c0_1]] ?_
      with_reducible refine (laws_toNet.calls k a0_0 _ _ l0_1 t557 t558 _ ?side1 ?side2 A22.out).mono ?_
      (case side1 => repeat (first | exact (Kd.C_below HR0_1.out HB.out) | (with_reducible refine Kd.C_alloc ?_ _) | (with_reducible refine Kd.C_drewN ?_ _) | (with_reducible refine Kd.C_drew ?_)))
      (case side2 => exact HC0_1.out)
      rintro e w48 ⟨v559, rfl, ho0, hb⟩
      refine ⟨_, rfl, ?_⟩
      have n0_ := Aside0.mk (Kd.R_elder' (onR HO543) (Kd.R_base ho0) hb)
      have n1_ := Aside0.mk (Kd.R_elder' (onR HO546) (Kd.R_base ho0) hb)
      have n2_ := Aside0.mk (Kd.R_elder' (onR HO551) (Kd.R_base ho0) hb)
      have n3_ := Aside0.mk (Kd.R_elder' (onR HO555) (Kd.R_base ho0) hb)
      have n4_ := Aside0.mk (Kd.R_lower (Kd.R_new' (Kd.R_new' (Kd.R_new' (Kd.R_new' ho0 (Kd.R_lt (onR HO543))) (Kd.R_lt (onR HO546))) (Kd.R_lt (onR HO551))) (Kd.R_lt (onR HO555))) (below_size (bn HB)))
      have n5_ := Aside0.mk (blk_below (bkn BK537) hb)
      have n6_ := Aside0.mk (blk_below (bkn BK552) hb)
      have n7_ := Aside0.mk (below_step (bn HB) hb)
      clear HO543 HO546 HO551 HO555 BK537 BK552 HB
      have HO543 := n0_
      have HO546 := n1_
      have HO551 := n2_
      have HO555 := n3_
      have HO560 := n4_
      have BK537 := n5_
      have BK552 := n6_
      have HB := n7_
      clear n0_ n1_ n2_ n3_ n4_ n5_ n6_ n7_
      (try clear hb)
      (try clear hb2)
      (try clear hk)
      (try clear hi)
      (try clear ho0)
      obtain ⟨Ao49, co49, eo49⟩ := Kd.R_slice HO560.out
      (first | subst eo49 | (injection eo49 with f1_ f2_ f3_; have f4_ := f1_.symm; have f5_ := f3_.symm; clear f1_ f2_ f3_; subst f4_; subst f5_))
      refine hK.out _ _ ⟨(blk_cell BK552.out 0).trans rfl, (blk_cell BK552.out 1).trans rfl, (blk_cell BK537.out 0).trans rfl, (blk_cell BK537.out 1).trans rfl⟩ (fun hHeld => ?_)
      clear hK K
      refine norm_ (a' := ?_) ?_ ?_
      rotate_left
      ·show Act.put _ (some 45) _ = _
       simp only [Act.put, List.setIfInBounds_toArray, List.set_cons_zero, List.set_cons_succ, i64_w, i32_w]
       rfl
      refine one_ (i := 3) (N := some 46) #[true, true, true, true, false] rfl rfl (by kernel_rfl) (by decide) (fun K hK => ?_)
      refine gg_ Try.func34 #[.agg #[.int .i64 t548, .slice Ao42 t549.length co42], .agg #[.int .i64 t557, .slice Ao49 t558.length co49]] ?_
      with_reducible refine (laws_eqNet.calls k t548 _ _ t549 t557 _ _ t558 true _ ?side1 ?side2 ?side3 ?side4 A23.out).mono ?_
      (case side1 => repeat (first | exact (Kd.R_reads' HO551.out).2.2 | (with_reducible refine Kd.C_alloc ?_ _) | (with_reducible refine Kd.C_drewN ?_ _) | (with_reducible refine Kd.C_drew ?_)))
      (case side2 => exact (Kd.R_reads' HO551.out).2.1)
      (case side3 => repeat (first | exact (Kd.R_reads' HO560.out).2.2 | (with_reducible refine Kd.C_alloc ?_ _) | (with_reducible refine Kd.C_drewN ?_ _) | (with_reducible refine Kd.C_drew ?_)))
      (case side4 => exact (Kd.R_reads' HO560.out).2.1)
      rintro e w50 ⟨rfl, hb⟩
      refine ⟨_, rfl, ?_⟩
      have n0_ := Aside0.mk (Kd.R_below (onR HO543) hb)
      have n1_ := Aside0.mk (Kd.R_below (onR HO546) hb)
      have n2_ := Aside0.mk (Kd.R_below (onR HO551) hb)
      have n3_ := Aside0.mk (Kd.R_below (onR HO555) hb)
      have n4_ := Aside0.mk (Kd.R_below (onR HO560) hb)
      have n5_ := Aside0.mk (blk_below (bkn BK537) hb)
      have n6_ := Aside0.mk (blk_below (bkn BK552) hb)
      have n7_ := Aside0.mk (below_step (bn HB) hb)
      clear HO543 HO546 HO551 HO555 HO560 BK537 BK552 HB
      have HO543 := n0_
      have HO546 := n1_
      have HO551 := n2_
      have HO555 := n3_
      have HO560 := n4_
      have BK537 := n5_
      have BK552 := n6_
      have HB := n7_
      clear n0_ n1_ n2_ n3_ n4_ n5_ n6_ n7_
      (try clear hb)
      (try clear hb2)
      (try clear hk)
      (try clear hi)
      refine hK.out _ _ ⟨(blk_cell BK552.out 0).trans rfl, (blk_cell BK552.out 1).trans rfl, (blk_cell BK537.out 0).trans rfl, (blk_cell BK537.out 1).trans rfl⟩ (fun hHeld => ?_)
      clear hK K
      refine norm_ (a' := ?_) ?_ ?_
      rotate_left
      ·show Act.put _ (some 46) _ = _
       simp only [Act.put, List.setIfInBounds_toArray, List.set_cons_zero, List.set_cons_succ, i64_w, i32_w]
       rfl
      refine pure_ (i := 4) (N := some 47) (v := ?_) (a' := ?_) #[true, true, true, true, true] rfl rfl (by kernel_rfl) (fun _ _ _ h => h) (Or.inl ⟨by rfl, ?_⟩) ?_ ?_; rotate_left; (intro w'; go_simp; with_reducible rfl); rotate_left; (simp only [Act.put, List.setIfInBounds_toArray, List.set_cons_zero, List.set_cons_succ, i64_w, i32_w]; rfl)
      refine done_ (by kernel_rfl) ?_
      try go_wp2_with (first | ((with_reducible refine gate_callee (f := 45) rfl ?_); refine gl_ (some 50) Try.func45 #[.slice A3 l3.length c3] ?_; (with_reducible refine (laws_toTieS.calls k _ _ l3 t562 _ ?side1 ?side2 A25.out).mono ?_); (case side1 => repeat (first | exact (Kd.C_below HR3.out HB.out) | (with_reducible refine Kd.C_alloc ?_ _) | (with_reducible refine Kd.C_drewN ?_ _) | (with_reducible refine Kd.C_drew ?_))); (case side2 => exact HC3.out); rintro e w51 ⟨v563, rfl, ho0, hb⟩; refine ⟨_, rfl, ?_⟩; have n0_ := Aside0.mk (Kd.R_elder' (onR HO543) (Kd.R_base ho0) hb); have n1_ := Aside0.mk (Kd.R_elder' (onR HO546) (Kd.R_base ho0) hb); have n2_ := Aside0.mk (Kd.R_elder' (onR HO551) (Kd.R_base ho0) hb); have n3_ := Aside0.mk (Kd.R_elder' (onR HO555) (Kd.R_base ho0) hb); have n4_ := Aside0.mk (Kd.R_elder' (onR HO560) (Kd.R_base ho0) hb); have n5_ := Aside0.mk (Kd.R_lower (Kd.R_new' (Kd.R_new' (Kd.R_new' (Kd.R_new' (Kd.R_new' ho0 (Kd.R_lt (onR HO543))) (Kd.R_lt (onR HO546))) (Kd.R_lt (onR HO551))) (Kd.R_lt (onR HO555))) (Kd.R_lt (onR HO560))) (below_size (bn HB))); have n6_ := Aside0.mk (blk_below (bkn BK537) hb); have n7_ := Aside0.mk (blk_below (bkn BK552) hb); have n8_ := Aside0.mk (below_step (bn HB) hb); clear HO543; clear HO546; clear HO551; clear HO555; clear HO560; clear BK537; clear BK552; clear HB; have HO543 := n0_; have HO546 := n1_; have HO551 := n2_; have HO555 := n3_; have HO560 := n4_; have HO564 := n5_; have BK537 := n6_; have BK552 := n7_; have HB := n8_; clear n0_ n1_ n2_ n3_ n4_ n5_ n6_ n7_ n8_; (try clear hb); (try clear ho0); obtain ⟨Ao52, co52, eo52⟩ := Kd.R_slice HO564.out; subst eo52) | ((with_reducible refine gate_callee (f := 47) rfl ?_); refine gl_ (some 51) Try.func47 #[.slice Ao45 t553.length co45, .slice Ao52 t562.length co52] ?_; (with_reducible refine (laws_eqTieS.calls k _ _ t553 _ _ t562 true _ ?side1 ?side2 ?side3 ?side4 A26.out).mono ?_); (case side1 => repeat (first | exact (Kd.R_reads' HO555.out).2.2 | (with_reducible refine Kd.C_alloc ?_ _) | (with_reducible refine Kd.C_drewN ?_ _) | (with_reducible refine Kd.C_drew ?_))); (case side2 => exact (Kd.R_reads' HO555.out).2.1); (case side3 => repeat (first | exact (Kd.R_reads' HO564.out).2.2 | (with_reducible refine Kd.C_alloc ?_ _) | (with_reducible refine Kd.C_drewN ?_ _) | (with_reducible refine Kd.C_drew ?_))); (case side4 => exact (Kd.R_reads' HO564.out).2.1); rintro e w53 ⟨rfl, hb⟩; refine ⟨_, rfl, ?_⟩; have n0_ := Aside0.mk (Kd.R_below (onR HO543) hb); have n1_ := Aside0.mk (Kd.R_below (onR HO546) hb); have n2_ := Aside0.mk (Kd.R_below (onR HO551) hb); have n3_ := Aside0.mk (Kd.R_below (onR HO555) hb); have n4_ := Aside0.mk (Kd.R_below (onR HO560) hb); have n5_ := Aside0.mk (Kd.R_below (onR HO564) hb); have n6_ := Aside0.mk (blk_below (bkn BK537) hb); have n7_ := Aside0.mk (blk_below (bkn BK552) hb); have n8_ := Aside0.mk (below_step (bn HB) hb); clear HO543; clear HO546; clear HO551; clear HO555; clear HO560; clear HO564; clear BK537; clear BK552; clear HB; have HO543 := n0_; have HO546 := n1_; have HO551 := n2_; have HO555 := n3_; have HO560 := n4_; have HO564 := n5_; have BK537 := n6_; have BK552 := n7_; have HB := n8_; clear n0_ n1_ n2_ n3_ n4_ n5_ n6_ n7_ n8_; (try clear hb); (try clear hi)))
      go_ret
      exact ⟨by first | rfl | (simp [errW_none, errW_some] <;> rfl) | (simp [*, errW_none, errW_some] <;> rfl), bn HB⟩
     ·replace c27 := Bool.eq_false_iff.mpr c27
      subst c27
      rw [if_neg (show ¬ (false = true) by decide)] at H
      exact absurd (Option.some.inj H) (by rw [hrt.out]; decide)
    ·replace c24 := Bool.eq_false_iff.mpr c24
     subst c24
     rw [if_neg (show ¬ (false = true) by decide)] at H
     exact absurd (Option.some.inj H) (by rw [hrt.out]; decide)

/-- what is to be proved of laws_FnExactFlowParts, without Go -/
def laws_FnExactFlowParts.Pure : Prop := ∀ (a0_0 : Int) (l0_1 : List (S96)) (a1 : Int) (a2 : Int) (l3 : List (S96)), ((Lit.int .i64 a0_0).wf = true) → (l0_1.length ≤ maxLen ∧ ∀ l0_1_ ∈ l0_1, (((Lit.int .i64 l0_1_.f0).wf = true) ∧ ((Lit.int .i64 l0_1_.f1).wf = true))) → ((Lit.int .i64 a1).wf = true) → ((Lit.int .i64 a2).wf = true) → (l3.length ≤ maxLen ∧ ∀ l3_ ∈ l3, (((Lit.int .i64 l3_.f0).wf = true) ∧ ((Lit.int .i64 l3_.f1).wf = true))) → ∃ k, laws_FnExactFlowParts.f k a0_0 l0_1 a1 a2 l3 = some true

end Go.Proofs.Ytdlnnjgjfngccaa.F
