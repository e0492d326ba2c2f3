-- Written by oprint.py (wip/tools) over the kit's print program, for this seat.
import Derived.Test.YtdlnnjgjfngccaaF0
import Derived.Test.YtdlnnjgjfngccaaF23
import Derived.Test.YtdlnnjgjfngccaaF26
import Derived.Test.YtdlnnjgjfngccaaF4
import Derived.Test.YtdlnnjgjfngccaaF5
import Derived.Test.YtdlnnjgjfngccaaF7
namespace Go.Proofs.Ytdlnnjgjfngccaa.F
open Go.RowKit Go.Proofs.YtdlnnjgjfngccaaW.PrintWords Go.Proofs.YtdlnnjgjfngccaaW.PrintLast Go.Proofs.YtdlnnjgjfngccaaW.PrintMore
attribute [local go_sem] max2_int min2_int max_two min_two max_three min_three max_four min_four   -- for this text's walks alone
set_option linter.unusedVariables false
set_option linter.unusedSimpArgs false

/-! ### laws_FnExactTwoOk: function 6 -/
def laws_FnExactTwoOk.f (k : Nat) (a0_0 : Int) (l0_1 : List (S96)) (a1 : Int) (a2 : Int) (l3 : List Int) (l4 : List Int) : Option (Bool) := if (l3.length : Int) > 1048576 then (some true) else (if (l4.length : Int) > 1048576 then (some true) else ((laws_szNet.f a0_0 l0_1 1048576).bind fun t313 => (if t313 < 0 then (some true) else ((laws_toNet.f k a0_0 l0_1).bind fun bt314 => ((laws_toIntS.f k l3).bind fun t318 => ((laws_toIntS.f k l4).bind fun t321 => ((spec_TwoOk.f k bt314.1 bt314.2 a1 a2 t318 t321).bind fun t324 => ((laws_toNet.f k a0_0 l0_1).bind fun bt325 => ((laws_toIntS.f k l3).bind fun t330 => ((laws_toIntS.f k l4).bind fun t333 => ((impl_TwoOk.f k bt325.1 bt325.2 a1 a2 t330 t333).bind fun t336 => (if (t336 != t324) = true then (some false) else ((laws_toNet.f k a0_0 l0_1).bind fun bt337 => ((laws_eqNet.f k bt325.1 bt325.2 bt337.1 bt337.2).bind fun t341 => (if t341 = true then ((laws_toIntS.f k l3).bind fun t342 => ((laws_eqIntS.f k t330 t342).bind fun t345 => (if t345 = true then ((laws_toIntS.f k l4).bind fun t346 => ((laws_eqIntS.f k t333 t346).bind fun t349 => (if t349 = true then (some true) else (some false)))) else (some false)))) else (some false))))))))))))))))
theorem laws_FnExactTwoOk.mono : ∀ a0 a1 a2 a3 a4 a5 k, LeO (laws_FnExactTwoOk.f k a0 a1 a2 a3 a4 a5) (laws_FnExactTwoOk.f (k + 1) a0 a1 a2 a3 a4 a5) := by
 intro a0 a1 a2 a3 a4 a5 k
 unfold laws_FnExactTwoOk.f
 repeat' first
   | (with_reducible exact impl_TwoOk.mono _ _ _ _ _ _ _)
   | (with_reducible exact laws_eqIntS.mono _ _ _)
   | (with_reducible exact laws_eqNet.mono _ _ _ _ _)
   | (with_reducible exact laws_toIntS.mono _ _)
   | (with_reducible exact laws_toNet.mono _ _ _)
   | (with_reducible exact spec_TwoOk.mono _ _ _ _ _ _ _)
   | (with_reducible exact LeO.refl _)
   | (with_reducible exact LeO.none _)
   | (with_reducible refine LeO.ite ?_ ?_)
   | (with_reducible refine LeO.bind ?_ (fun _ => ?_))
   | exact impl_TwoOk.mono _ _ _ _ _ _ _
   | exact laws_eqIntS.mono _ _ _
   | exact laws_eqNet.mono _ _ _ _ _
   | exact laws_toIntS.mono _ _
   | exact laws_toNet.mono _ _ _
   | exact spec_TwoOk.mono _ _ _ _ _ _ _
   | exact LeO.none _
   | refine LeO.ite ?_ ?_
   | refine LeO.bind ?_ (fun _ => ?_)
set_option maxHeartbeats 8000000 in
set_option maxRecDepth 100000 in
theorem laws_FnExactTwoOk.calls (k : Nat) (a0_0 : Int) (A0_1 : Option Addr) (c0_1 : Nat) (l0_1 : List (S96)) (a1 : Int) (a2 : Int) (A3 : Option Addr) (c3 : Nat) (l3 : List Int) (A4 : Option Addr) (c4 : Nat) (l4 : List Int) (r : Bool) (w : World) (hr0_1 : Kd.C k96 w A0_1 l0_1.length l0_1) (hc0_1 : l0_1.length ≤ c0_1) (hr3 : Kd.C (Kd.int .i64) w A3 l3.length l3) (hc3 : l3.length ≤ c3) (hr4 : Kd.C (Kd.int .i64) w A4 l4.length l4) (hc4 : l4.length ≤ c4) (hrt : Aside0 (r = true)) (h : laws_FnExactTwoOk.f k a0_0 l0_1 a1 a2 l3 l4 = some r) :
  Calls Try.prog 6 #[.agg #[.int .i64 a0_0, .slice A0_1 l0_1.length c0_1], .int .i64 a1, .int .i64 a2, .slice A3 l3.length c3, .slice A4 l4.length c4] w fun e w' => e = .returned (.bool r) ∧ Below w.heap.size w w' := by
 have hu29 := Try.underlying29
 have hu34 := Try.underlying34
 have HR0_1 := Aside0.mk hr0_1
 have HC0_1 := Aside0.mk hc0_1
 clear hr0_1 hc0_1
 have HR3 := Aside0.mk hr3
 have HC3 := Aside0.mk hc3
 clear hr3 hc3
 have HR4 := Aside0.mk hr4
 have HC4 := Aside0.mk hc4
 clear hr4 hc4
 have HB := Aside0.mk (Below.refl w.heap.size w)
 have H : (if (l3.length : Int) > 1048576 then (some true) else (if (l4.length : Int) > 1048576 then (some true) else ((laws_szNet.f a0_0 l0_1 1048576).bind fun t313 => (if t313 < 0 then (some true) else ((laws_toNet.f k a0_0 l0_1).bind fun bt314 => ((laws_toIntS.f k l3).bind fun t318 => ((laws_toIntS.f k l4).bind fun t321 => ((spec_TwoOk.f k bt314.1 bt314.2 a1 a2 t318 t321).bind fun t324 => ((laws_toNet.f k a0_0 l0_1).bind fun bt325 => ((laws_toIntS.f k l3).bind fun t330 => ((laws_toIntS.f k l4).bind fun t333 => ((impl_TwoOk.f k bt325.1 bt325.2 a1 a2 t330 t333).bind fun t336 => (if (t336 != t324) = true then (some false) else ((laws_toNet.f k a0_0 l0_1).bind fun bt337 => ((laws_eqNet.f k bt325.1 bt325.2 bt337.1 bt337.2).bind fun t341 => (if t341 = true then ((laws_toIntS.f k l3).bind fun t342 => ((laws_eqIntS.f k t330 t342).bind fun t345 => (if t345 = true then ((laws_toIntS.f k l4).bind fun t346 => ((laws_eqIntS.f k t333 t346).bind fun t349 => (if t349 = true then (some true) else (some false)))) else (some false)))) else (some false))))))))))))))))) = some r := h
 clear h
 by_cases c6 : (l3.length : Int) > 1048576
 ·rw [if_pos c6] at H
  have c6b0 := decide_eq_true c6
  have c6b1 : decide (1048576 < l3.length) = true := decide_eq_true (by omega)
  clear c6
  obtain rfl := Option.some.inj H
  go_enter Try.func6, Try.ntmps6
  go_wp2_with (first | ((with_reducible refine gate_dst (N := 5) rfl ?_); refine box_event ?hg (N := 5) ?hd (cs := #[.int .i64 a0_0, .slice A0_1 l0_1.length c0_1]) (t := 29) ?hr ?_; (case hd => rfl); (case hg => rfl); (case hr => first | (go_simp; done) | (go_simp; rfl)); intro gb312 hg w7 hbox hb; have n0_ := Aside0.mk (below_step (bn HB) hb); have n1_ := Aside0.mk (hbox); have n2_ := Aside0.mk ((by rw [hg]; exact (below_size (bn HB)) : w.heap.size ≤ gb312)); have n3_ := Aside0.mk ((by rw [hg]; exact (below_size (bn HB)) : w.heap.size ≤ gb312)); clear HB; have HB := n0_; have BK312 := n1_; have GW312 := n2_; have GE312 := n3_; clear n0_ n1_ n2_ n3_; clear hb hbox hg))
  go_ret
  exact ⟨by first | rfl | (simp [errW_none, errW_some] <;> rfl) | (simp [*, errW_none, errW_some] <;> rfl), bn HB⟩
 ·rw [if_neg c6] at H
  have c6b0 := decide_eq_false c6
  have c6b1 : decide (1048576 < l3.length) = false := decide_eq_false (by omega)
  clear c6
  by_cases c8 : (l4.length : Int) > 1048576
  ·rw [if_pos c8] at H
   have c8b0 := decide_eq_true c8
   have c8b1 : decide (1048576 < l4.length) = true := decide_eq_true (by omega)
   clear c8
   obtain rfl := Option.some.inj H
   go_enter Try.func6, Try.ntmps6
   go_wp2_with (first | ((with_reducible refine gate_dst (N := 5) rfl ?_); refine box_event ?hg (N := 5) ?hd (cs := #[.int .i64 a0_0, .slice A0_1 l0_1.length c0_1]) (t := 29) ?hr ?_; (case hd => rfl); (case hg => rfl); (case hr => first | (go_simp; done) | (go_simp; rfl)); intro gb312 hg w9 hbox hb; have n0_ := Aside0.mk (below_step (bn HB) hb); have n1_ := Aside0.mk (hbox); have n2_ := Aside0.mk ((by rw [hg]; exact (below_size (bn HB)) : w.heap.size ≤ gb312)); have n3_ := Aside0.mk ((by rw [hg]; exact (below_size (bn HB)) : w.heap.size ≤ gb312)); clear HB; have HB := n0_; have BK312 := n1_; have GW312 := n2_; have GE312 := n3_; clear n0_ n1_ n2_ n3_; clear hb hbox hg))
   go_ret
   exact ⟨by first | rfl | (simp [errW_none, errW_some] <;> rfl) | (simp [*, errW_none, errW_some] <;> rfl), bn HB⟩
  ·rw [if_neg c8] at H
   have c8b0 := decide_eq_false c8
   have c8b1 : decide (1048576 < l4.length) = false := decide_eq_false (by omega)
   clear c8
   replace H := Option.bind_eq_some_iff.mp H
   obtain ⟨t313, A100, H⟩ := H
   (try dsimp only at H)
   have A10 := Aside0.mk A100
   clear A100
   by_cases c11 : t313 < 0
   ·rw [if_pos c11] at H
    have c11b0 := decide_eq_true c11
    clear c11
    obtain rfl := Option.some.inj H
    go_enter Try.func6, Try.ntmps6
    go_wp2_with (first | ((with_reducible refine gate_dst (N := 5) rfl ?_); refine box_event ?hg (N := 5) ?hd (cs := #[.int .i64 a0_0, .slice A0_1 l0_1.length c0_1]) (t := 29) ?hr ?_; (case hd => rfl); (case hg => rfl); (case hr => first | (go_simp; done) | (go_simp; rfl)); intro gb312 hg w12 hbox hb; have n0_ := Aside0.mk (below_step (bn HB) hb); have n1_ := Aside0.mk (hbox); have n2_ := Aside0.mk ((by rw [hg]; exact (below_size (bn HB)) : w.heap.size ≤ gb312)); have n3_ := Aside0.mk ((by rw [hg]; exact (below_size (bn HB)) : w.heap.size ≤ gb312)); clear HB; have HB := n0_; have BK312 := n1_; have GW312 := n2_; have GE312 := n3_; clear n0_ n1_ n2_ n3_; clear hb hbox hg; have hcz13_0 := bc BK312 0; have hcz13_1 := bc BK312 1; have hfz13_0 := blk_frozen BK312.out 0; have hfz13_1 := blk_frozen BK312.out 1) | ((with_reducible refine gate_callee (f := 30) rfl ?_); refine gl_ (some 25) Try.func30 #[.agg #[.int .i64 a0_0, .slice A0_1 l0_1.length c0_1], .int .i64 1048576] ?_; (with_reducible refine (laws_szNet.calls a0_0 _ _ l0_1 1048576 t313 _ ?side1 ?side2 A10.out).mono ?_); (case side1 => repeat (first | exact (Kd.C_below HR0_1.out HB.out) | (with_reducible refine Kd.C_alloc ?_ _) | (with_reducible refine Kd.C_drewN ?_ _) | (with_reducible refine Kd.C_drew ?_))); (case side2 => exact HC0_1.out); rintro e w14 ⟨rfl, hb⟩; refine ⟨_, rfl, ?_⟩; have n0_ := Aside0.mk (blk_below (bkn BK312) hb); have n1_ := Aside0.mk (below_step (bn HB) hb); clear BK312; clear HB; have BK312 := n0_; have HB := n1_; clear n0_ n1_; (try clear hb); (try clear hi)))
    go_ret
    exact ⟨by first | rfl | (simp [errW_none, errW_some] <;> rfl) | (simp [*, errW_none, errW_some] <;> rfl), bn HB⟩
   ·rw [if_neg c11] at H
    have c11b0 := decide_eq_false c11
    clear c11
    replace H := Option.bind_eq_some_iff.mp H
    obtain ⟨⟨t314, t315⟩, A150, H⟩ := H
    (try dsimp only at H)
    have A15 := Aside0.mk A150
    clear A150
    replace H := Option.bind_eq_some_iff.mp H
    obtain ⟨t318, A160, H⟩ := H
    (try dsimp only at H)
    have A16 := Aside0.mk A160
    clear A160
    replace H := Option.bind_eq_some_iff.mp H
    obtain ⟨t321, A170, H⟩ := H
    (try dsimp only at H)
    have A17 := Aside0.mk A170
    clear A170
    replace H := Option.bind_eq_some_iff.mp H
    obtain ⟨t324, A180, H⟩ := H
    (try dsimp only at H)
    have A18 := Aside0.mk A180
    clear A180
    replace H := Option.bind_eq_some_iff.mp H
    obtain ⟨⟨t325, t326⟩, A190, H⟩ := H
    (try dsimp only at H)
    have A19 := Aside0.mk A190
    clear A190
    replace H := Option.bind_eq_some_iff.mp H
    obtain ⟨t330, A200, H⟩ := H
    (try dsimp only at H)
    have A20 := Aside0.mk A200
    clear A200
    replace H := Option.bind_eq_some_iff.mp H
    obtain ⟨t333, A210, H⟩ := H
    (try dsimp only at H)
    have A21 := Aside0.mk A210
    clear A210
    replace H := Option.bind_eq_some_iff.mp H
    obtain ⟨t336, A220, H⟩ := H
    (try dsimp only at H)
    have A22 := Aside0.mk A220
    clear A220
    by_cases c23 : (t336 != t324) = true
    ·rw [if_pos c23] at H
     have c23b0 : (t336 != t324) = true := c23
     (try (have c23b1 : decide (t336 = t324) = false := by simpa using c23))
     (try (have c23b2 : (t336 == t324) = false := by simpa using c23))
     (try (have c23b3 : ¬ (t336 = t324) := by simpa using c23))
     clear c23
     exact absurd (Option.some.inj H) (by rw [hrt.out]; decide)
    ·rw [if_neg c23] at H
     have c23b0 : (t336 != t324) = false := by simpa using c23
     (try (have c23b1 : decide (t336 = t324) = true := by simpa using c23))
     (try (have c23b2 : (t336 == t324) = true := by simpa using c23))
     clear c23
     replace H := Option.bind_eq_some_iff.mp H
     obtain ⟨⟨t337, t338⟩, A240, H⟩ := H
     (try dsimp only at H)
     have A24 := Aside0.mk A240
     clear A240
     replace H := Option.bind_eq_some_iff.mp H
     obtain ⟨t341, A250, H⟩ := H
     (try dsimp only at H)
     have A25 := Aside0.mk A250
     clear A250
     by_cases c26 : t341 = true
     ·subst c26
      rw [if_pos rfl] at H
      replace H := Option.bind_eq_some_iff.mp H
      obtain ⟨t342, A270, H⟩ := H
      (try dsimp only at H)
      have A27 := Aside0.mk A270
      clear A270
      replace H := Option.bind_eq_some_iff.mp H
      obtain ⟨t345, A280, H⟩ := H
      (try dsimp only at H)
      have A28 := Aside0.mk A280
      clear A280
      by_cases c29 : t345 = true
      ·subst c29
       rw [if_pos rfl] at H
       replace H := Option.bind_eq_some_iff.mp H
       obtain ⟨t346, A300, H⟩ := H
       (try dsimp only at H)
       have A30 := Aside0.mk A300
       clear A300
       replace H := Option.bind_eq_some_iff.mp H
       obtain ⟨t349, A310, H⟩ := H
       (try dsimp only at H)
       have A31 := Aside0.mk A310
       clear A310
       by_cases c32 : t349 = true
       ·subst c32
        rw [if_pos rfl] at H
        obtain rfl := Option.some.inj H
        go_enter Try.func6, Try.ntmps6
        try go_wp2_with (first | ((with_reducible refine gate_dst (N := 5) rfl ?_); refine box_event ?hg (N := 5) ?hd (cs := #[.int .i64 a0_0, .slice A0_1 l0_1.length c0_1]) (t := 29) ?hr ?_; (case hd => rfl); (case hg => rfl); (case hr => first | (go_simp; done) | (go_simp; rfl)); intro gb312 hg w33 hbox hb; have n0_ := Aside0.mk (below_step (bn HB) hb); have n1_ := Aside0.mk (hbox); have n2_ := Aside0.mk ((by rw [hg]; exact (below_size (bn HB)) : w.heap.size ≤ gb312)); have n3_ := Aside0.mk ((by rw [hg]; exact (below_size (bn HB)) : w.heap.size ≤ gb312)); clear HB; have HB := n0_; have BK312 := n1_; have GW312 := n2_; have GE312 := n3_; clear n0_ n1_ n2_ n3_; clear hb hbox hg; have hcz34_0 := bc BK312 0; have hcz34_1 := bc BK312 1; have hfz34_0 := blk_frozen BK312.out 0; have hfz34_1 := blk_frozen BK312.out 1) | ((with_reducible refine gate_callee (f := 30) rfl ?_); refine gl_ (some 25) Try.func30 #[.agg #[.int .i64 a0_0, .slice A0_1 l0_1.length c0_1], .int .i64 1048576] ?_; (with_reducible refine (laws_szNet.calls a0_0 _ _ l0_1 1048576 t313 _ ?side1 ?side2 A10.out).mono ?_); (case side1 => repeat (first | exact (Kd.C_below HR0_1.out HB.out) | (with_reducible refine Kd.C_alloc ?_ _) | (with_reducible refine Kd.C_drewN ?_ _) | (with_reducible refine Kd.C_drew ?_))); (case side2 => exact HC0_1.out); rintro e w35 ⟨rfl, hb⟩; refine ⟨_, rfl, ?_⟩; have n0_ := Aside0.mk (blk_below (bkn BK312) hb); have n1_ := Aside0.mk (below_step (bn HB) hb); clear BK312; clear HB; have BK312 := n0_; have HB := n1_; clear n0_ n1_; (try clear hb); have hcz36_0 := bc BK312 0; have hcz36_1 := bc BK312 1; have hfz36_0 := blk_frozen BK312.out 0; have hfz36_1 := blk_frozen BK312.out 1) | ((with_reducible refine gate_callee (f := 32) rfl ?_); refine gl_ (some 29) Try.func32 #[.agg #[.int .i64 a0_0, .slice A0_1 l0_1.length c0_1]] ?_; (with_reducible refine (laws_toNet.calls k a0_0 _ _ l0_1 t314 t315 _ ?side1 ?side2 A15.out).mono ?_); (case side1 => repeat (first | exact (Kd.C_below HR0_1.out HB.out) | (with_reducible refine Kd.C_alloc ?_ _) | (with_reducible refine Kd.C_drewN ?_ _) | (with_reducible refine Kd.C_drew ?_))); (case side2 => exact HC0_1.out); rintro e w37 ⟨v316, rfl, ho0, hb⟩; refine ⟨_, rfl, ?_⟩; have n0_ := Aside0.mk (Kd.R_lower ho0 (below_size (bn HB))); have n1_ := Aside0.mk (blk_below (bkn BK312) hb); have n2_ := Aside0.mk (below_step (bn HB) hb); clear BK312; clear HB; have HO317 := n0_; have BK312 := n1_; have HB := n2_; clear n0_ n1_ n2_; (try clear hb); (try clear ho0)) | ((with_reducible refine gate_callee (f := 38) rfl ?_); refine gl_ (some 33) Try.func38 #[.slice A3 l3.length c3] ?_; (with_reducible refine (laws_toIntS.calls k _ _ l3 t318 _ ?side1 ?side2 A16.out).mono ?_); (case side1 => repeat (first | exact (Kd.C_below HR3.out HB.out) | (with_reducible refine Kd.C_alloc ?_ _) | (with_reducible refine Kd.C_drewN ?_ _) | (with_reducible refine Kd.C_drew ?_))); (case side2 => exact HC3.out); rintro e w38 ⟨v319, rfl, ho0, hb⟩; refine ⟨_, rfl, ?_⟩; have n0_ := Aside0.mk (Kd.R_below (onR HO317) hb); have n1_ := Aside0.mk (Kd.R_lower ho0 (below_size (bn HB))); have n2_ := Aside0.mk (blk_below (bkn BK312) hb); have n3_ := Aside0.mk (below_step (bn HB) hb); clear HO317; clear BK312; clear HB; have HO317 := n0_; have HO320 := n1_; have BK312 := n2_; have HB := n3_; clear n0_ n1_ n2_ n3_; (try clear hb); (try clear ho0)) | ((with_reducible refine gate_callee (f := 38) rfl ?_); refine gl_ (some 35) Try.func38 #[.slice A4 l4.length c4] ?_; (with_reducible refine (laws_toIntS.calls k _ _ l4 t321 _ ?side1 ?side2 A17.out).mono ?_); (case side1 => repeat (first | exact (Kd.C_below HR4.out HB.out) | (with_reducible refine Kd.C_alloc ?_ _) | (with_reducible refine Kd.C_drewN ?_ _) | (with_reducible refine Kd.C_drew ?_))); (case side2 => exact HC4.out); rintro e w39 ⟨v322, rfl, ho0, hb⟩; refine ⟨_, rfl, ?_⟩; have n0_ := Aside0.mk (Kd.R_below (onR HO317) hb); have n1_ := Aside0.mk (Kd.R_elder' (onR HO320) (Kd.R_base ho0) hb); have n2_ := Aside0.mk (Kd.R_lower (Kd.R_new' ho0 (Kd.R_lt (onR HO320))) (below_size (bn HB))); have n3_ := Aside0.mk (blk_below (bkn BK312) hb); have n4_ := Aside0.mk (below_step (bn HB) hb); clear HO317; clear HO320; clear BK312; clear HB; have HO317 := n0_; have HO320 := n1_; have HO323 := n2_; have BK312 := n3_; have HB := n4_; clear n0_ n1_ n2_ n3_ n4_; (try clear hb); (try clear ho0); obtain ⟨Ao40, co40, eo40⟩ := Kd.R_slice HO317.out; subst eo40; obtain ⟨Ao41, co41, eo41⟩ := Kd.R_slice HO320.out; subst eo41; obtain ⟨Ao42, co42, eo42⟩ := Kd.R_slice HO323.out; subst eo42) | ((with_reducible refine gate_callee (f := 37) rfl ?_); refine gl_ (some 36) Try.func37 #[.agg #[.int .i64 t314, .slice Ao40 t315.length co40], .int .i64 a1, .int .i64 a2, .slice Ao41 t318.length co41, .slice Ao42 t321.length co42] ?_; (with_reducible refine (spec_TwoOk.calls k t314 _ _ t315 a1 a2 _ _ t318 _ _ t321 t324 _ ?side1 ?side2 ?side3 ?side4 ?side5 ?side6 A18.out).mono ?_); (case side1 => repeat (first | exact (Kd.R_reads' HO317.out).2.2 | (with_reducible refine Kd.C_alloc ?_ _) | (with_reducible refine Kd.C_drewN ?_ _) | (with_reducible refine Kd.C_drew ?_))); (case side2 => exact (Kd.R_reads' HO317.out).2.1); (case side3 => repeat (first | exact (Kd.R_reads' HO320.out).2.2 | (with_reducible refine Kd.C_alloc ?_ _) | (with_reducible refine Kd.C_drewN ?_ _) | (with_reducible refine Kd.C_drew ?_))); (case side4 => exact (Kd.R_reads' HO320.out).2.1); (case side5 => repeat (first | exact (Kd.R_reads' HO323.out).2.2 | (with_reducible refine Kd.C_alloc ?_ _) | (with_reducible refine Kd.C_drewN ?_ _) | (with_reducible refine Kd.C_drew ?_))); (case side6 => exact (Kd.R_reads' HO323.out).2.1); rintro e w43 ⟨rfl, hb⟩; refine ⟨_, rfl, ?_⟩; have n0_ := Aside0.mk (Kd.R_below (onR HO317) hb); have n1_ := Aside0.mk (Kd.R_below (onR HO320) hb); have n2_ := Aside0.mk (Kd.R_below (onR HO323) hb); have n3_ := Aside0.mk (blk_below (bkn BK312) hb); have n4_ := Aside0.mk (below_step (bn HB) hb); clear HO317; clear HO320; clear HO323; clear BK312; clear HB; have HO317 := n0_; have HO320 := n1_; have HO323 := n2_; have BK312 := n3_; have HB := n4_; clear n0_ n1_ n2_ n3_ n4_; (try clear hb); have hcz44_0 := bc BK312 0; have hcz44_1 := bc BK312 1; have hfz44_0 := blk_frozen BK312.out 0; have hfz44_1 := blk_frozen BK312.out 1) | ((with_reducible refine gate_callee (f := 32) rfl ?_); refine gl_ (some 38) Try.func32 #[.agg #[.int .i64 a0_0, .slice A0_1 l0_1.length c0_1]] ?_; (with_reducible refine (laws_toNet.calls k a0_0 _ _ l0_1 t325 t326 _ ?side1 ?side2 A19.out).mono ?_); (case side1 => repeat (first | exact (Kd.C_below HR0_1.out HB.out) | (with_reducible refine Kd.C_alloc ?_ _) | (with_reducible refine Kd.C_drewN ?_ _) | (with_reducible refine Kd.C_drew ?_))); (case side2 => exact HC0_1.out); rintro e w45 ⟨v327, rfl, ho0, hb⟩; refine ⟨_, rfl, ?_⟩; have n0_ := Aside0.mk (Kd.R_elder' (onR HO317) (Kd.R_base ho0) hb); have n1_ := Aside0.mk (Kd.R_below (onR HO320) hb); have n2_ := Aside0.mk (Kd.R_below (onR HO323) hb); have n3_ := Aside0.mk (Kd.R_lower (Kd.R_new' ho0 (Kd.R_lt (onR HO317))) (below_size (bn HB))); have n4_ := Aside0.mk (blk_below (bkn BK312) hb); have n5_ := Aside0.mk (below_step (bn HB) hb); clear HO317; clear HO320; clear HO323; clear BK312; clear HB; have HO317 := n0_; have HO320 := n1_; have HO323 := n2_; have HO328 := n3_; have BK312 := n4_; have HB := n5_; clear n0_ n1_ n2_ n3_ n4_ n5_; (try clear hb); (try clear ho0)) | ((with_reducible refine gate_dst (N := 13) rfl ?_); refine box_event ?hg (N := 13) ?hd (cs := #[.int .i64 0, .slice none 0 0]) (t := 34) ?hr ?_; (case hd => rfl); (case hg => rfl); (case hr => first | (go_simp; done) | (go_simp; rfl)); intro gb329 hg w46 hbox hb; have n0_ := Aside0.mk (Kd.R_below (onR HO317) hb); have n1_ := Aside0.mk (Kd.R_below (onR HO320) hb); have n2_ := Aside0.mk (Kd.R_below (onR HO323) hb); have n3_ := Aside0.mk (Kd.R_below (onR HO328) hb); have n4_ := Aside0.mk (blk_below (bkn BK312) hb); have n5_ := Aside0.mk (below_step (bn HB) hb); have n6_ := Aside0.mk (hbox); have n7_ := Aside0.mk ((by rw [hg]; exact (below_size (bn HB)) : w.heap.size ≤ gb329)); have n8_ := Aside0.mk ((by rw [hg]; exact (below_size (bn HB)) : w.heap.size ≤ gb329)); have n9_ := Aside0.mk ((by rw [hg]; exact Nat.ne_of_lt (blk_lt (bkn BK312)) : gb312 ≠ gb329)); have n10_ := Aside0.mk ((by rw [hg]; exact Nat.ne_of_gt (blk_lt (bkn BK312)) : gb329 ≠ gb312)); clear HO317; clear HO320; clear HO323; clear HO328; clear BK312; clear HB; have HO317 := n0_; have HO320 := n1_; have HO323 := n2_; have HO328 := n3_; have BK312 := n4_; have HB := n5_; have BK329 := n6_; have GW329 := n7_; have GE329 := n8_; have NB312_329 := n9_; have NB329_312 := n10_; clear n0_ n1_ n2_ n3_ n4_ n5_ n6_ n7_ n8_ n9_ n10_; clear hb hbox hg; have hnb47 := NB329_312.out; have hnc47 := NB312_329.out; have hcz48_0 := bc BK329 0; have hcz48_1 := bc BK329 1; have hfz48_0 := blk_frozen BK329.out 0; have hfz48_1 := blk_frozen BK329.out 1; obtain ⟨Ao49, co49, eo49⟩ := Kd.R_slice HO328.out; subst eo49) | ((with_reducible refine gate_callee (f := 38) rfl ?_); refine gl_ (some 40) Try.func38 #[.slice A3 l3.length c3] ?_; (with_reducible refine (laws_toIntS.calls k _ _ l3 t330 _ ?side1 ?side2 A20.out).mono ?_); (case side1 => exact Kd.C_below HR3.out (bn HB)); (case side2 => exact HC3.out); rintro e w50 ⟨v331, rfl, ho0, hb⟩; refine ⟨_, rfl, ?_⟩; have n0_ := Aside0.mk (Kd.R_below (by (with_reducible repeat (first | apply Kd.R_alloc | apply Kd.R_drewN | apply Kd.R_drew)); exact (Kd.R_mono (Kd.R_far (p := ⟨gb329, 1, none⟩) (Kd.R_far (p := ⟨gb329, 0, none⟩) (Kd.R_types HO317.out BK329.out (by decide)) (fun _ hk => hk.2) (.int .i64 t325)) (fun _ hk => hk.2) (.slice Ao49 t326.length co49)) (fun _ h_ => h_.1))) hb); have n1_ := Aside0.mk (Kd.R_elder' (by (with_reducible repeat (first | apply Kd.R_alloc | apply Kd.R_drewN | apply Kd.R_drew)); exact (Kd.R_mono (Kd.R_far (p := ⟨gb329, 1, none⟩) (Kd.R_far (p := ⟨gb329, 0, none⟩) (Kd.R_types HO320.out BK329.out (by decide)) (fun _ hk => hk.2) (.int .i64 t325)) (fun _ hk => hk.2) (.slice Ao49 t326.length co49)) (fun _ h_ => h_.1))) (Kd.R_base ho0) hb); have n2_ := Aside0.mk (Kd.R_elder' (by (with_reducible repeat (first | apply Kd.R_alloc | apply Kd.R_drewN | apply Kd.R_drew)); exact (Kd.R_mono (Kd.R_far (p := ⟨gb329, 1, none⟩) (Kd.R_far (p := ⟨gb329, 0, none⟩) (Kd.R_types HO323.out BK329.out (by decide)) (fun _ hk => hk.2) (.int .i64 t325)) (fun _ hk => hk.2) (.slice Ao49 t326.length co49)) (fun _ h_ => h_.1))) (Kd.R_base ho0) hb); have n3_ := Aside0.mk (Kd.R_below (by (with_reducible repeat (first | apply Kd.R_alloc | apply Kd.R_drewN | apply Kd.R_drew)); exact (Kd.R_mono (Kd.R_far (p := ⟨gb329, 1, none⟩) (Kd.R_far (p := ⟨gb329, 0, none⟩) (Kd.R_types HO328.out BK329.out (by decide)) (fun _ hk => hk.2) (.int .i64 t325)) (fun _ hk => hk.2) (.slice Ao49 t326.length co49)) (fun _ h_ => h_.1))) hb); have n4_ := Aside0.mk (Kd.R_lower (Kd.R_new' (Kd.R_new' ho0 (Kd.R_lt (by (with_reducible repeat (first | apply Kd.R_alloc | apply Kd.R_drewN | apply Kd.R_drew)); exact (Kd.R_mono (Kd.R_far (p := ⟨gb329, 1, none⟩) (Kd.R_far (p := ⟨gb329, 0, none⟩) (Kd.R_types HO320.out BK329.out (by decide)) (fun _ hk => hk.2) (.int .i64 t325)) (fun _ hk => hk.2) (.slice Ao49 t326.length co49)) (fun _ h_ => h_.1))))) (Kd.R_lt (by (with_reducible repeat (first | apply Kd.R_alloc | apply Kd.R_drewN | apply Kd.R_drew)); exact (Kd.R_mono (Kd.R_far (p := ⟨gb329, 1, none⟩) (Kd.R_far (p := ⟨gb329, 0, none⟩) (Kd.R_types HO323.out BK329.out (by decide)) (fun _ hk => hk.2) (.int .i64 t325)) (fun _ hk => hk.2) (.slice Ao49 t326.length co49)) (fun _ h_ => h_.1))))) (below_size (bn HB))); have n5_ := Aside0.mk (blk_below (bkn BK312) hb); have n6_ := Aside0.mk (blk_below (g := gb329) (o := .cells #[.int .i64 t325, .slice Ao49 t326.length co49] 34 (0, 0)) (by (with_reducible repeat (first | refine blk_drewN ?_ _ | refine blk_drew ?_ | refine blk_alloc ?_ _)); refine blk_put (cs := #[.int .i64 t325, .slice none 0 0]) ?_ 1 _ rfl; (with_reducible repeat (first | refine blk_drewN ?_ _ | refine blk_drew ?_ | refine blk_alloc ?_ _)); refine blk_put (cs := #[.int .i64 0, .slice none 0 0]) ?_ 0 _ rfl; (with_reducible repeat (first | refine blk_drewN ?_ _ | refine blk_drew ?_ | refine blk_alloc ?_ _)); exact BK329.out) hb); have n7_ := Aside0.mk (below_step (bn HB) hb); clear HO317; clear HO320; clear HO323; clear HO328; clear BK312; clear BK329; clear HB; have HO317 := n0_; have HO320 := n1_; have HO323 := n2_; have HO328 := n3_; have HO332 := n4_; have BK312 := n5_; have BK329 := n6_; have HB := n7_; clear n0_ n1_ n2_ n3_ n4_ n5_ n6_ n7_; (try clear hb); (try clear ho0)) | ((with_reducible refine gate_callee (f := 38) rfl ?_); refine gl_ (some 42) Try.func38 #[.slice A4 l4.length c4] ?_; (with_reducible refine (laws_toIntS.calls k _ _ l4 t333 _ ?side1 ?side2 A21.out).mono ?_); (case side1 => repeat (first | exact (Kd.C_below HR4.out HB.out) | (with_reducible refine Kd.C_alloc ?_ _) | (with_reducible refine Kd.C_drewN ?_ _) | (with_reducible refine Kd.C_drew ?_))); (case side2 => exact HC4.out); rintro e w51 ⟨v334, rfl, ho0, hb⟩; refine ⟨_, rfl, ?_⟩; have n0_ := Aside0.mk (Kd.R_below (onR HO317) hb); have n1_ := Aside0.mk (Kd.R_elder' (onR HO320) (Kd.R_base ho0) hb); have n2_ := Aside0.mk (Kd.R_elder' (onR HO323) (Kd.R_base ho0) hb); have n3_ := Aside0.mk (Kd.R_below (onR HO328) hb); have n4_ := Aside0.mk (Kd.R_elder' (onR HO332) (Kd.R_base ho0) hb); have n5_ := Aside0.mk (Kd.R_lower (Kd.R_new' (Kd.R_new' (Kd.R_new' ho0 (Kd.R_lt (onR HO320))) (Kd.R_lt (onR HO323))) (Kd.R_lt (onR HO332))) (below_size (bn HB))); have n6_ := Aside0.mk (blk_below (bkn BK312) hb); have n7_ := Aside0.mk (blk_below (bkn BK329) hb); have n8_ := Aside0.mk (below_step (bn HB) hb); clear HO317; clear HO320; clear HO323; clear HO328; clear HO332; clear BK312; clear BK329; clear HB; have HO317 := n0_; have HO320 := n1_; have HO323 := n2_; have HO328 := n3_; have HO332 := n4_; have HO335 := n5_; have BK312 := n6_; have BK329 := n7_; have HB := n8_; clear n0_ n1_ n2_ n3_ n4_ n5_ n6_ n7_ n8_; (try clear hb); (try clear ho0); have hcz52_0 := bc BK329 0; have hcz52_1 := bc BK329 1; have hfz52_0 := blk_frozen BK329.out 0; have hfz52_1 := blk_frozen BK329.out 1; obtain ⟨Ao53, co53, eo53⟩ := Kd.R_slice HO332.out; subst eo53; obtain ⟨Ao54, co54, eo54⟩ := Kd.R_slice HO335.out; subst eo54) | ((with_reducible refine gate_callee (f := 39) rfl ?_); refine gl_ (some 48) Try.func39 #[.agg #[.int .i64 t325, .slice Ao49 t326.length co49], .int .i64 a1, .int .i64 a2, .slice Ao53 t330.length co53, .slice Ao54 t333.length co54] ?_; (with_reducible refine (impl_TwoOk.calls k t325 _ _ t326 a1 a2 _ _ t330 _ _ t333 t336 _ ?side1 ?side2 ?side3 ?side4 ?side5 ?side6 A22.out).mono ?_); (case side1 => repeat (first | exact (Kd.R_reads' HO328.out).2.2 | (with_reducible refine Kd.C_alloc ?_ _) | (with_reducible refine Kd.C_drewN ?_ _) | (with_reducible refine Kd.C_drew ?_))); (case side2 => exact (Kd.R_reads' HO328.out).2.1); (case side3 => repeat (first | exact (Kd.R_reads' HO332.out).2.2 | (with_reducible refine Kd.C_alloc ?_ _) | (with_reducible refine Kd.C_drewN ?_ _) | (with_reducible refine Kd.C_drew ?_))); (case side4 => exact (Kd.R_reads' HO332.out).2.1); (case side5 => repeat (first | exact (Kd.R_reads' HO335.out).2.2 | (with_reducible refine Kd.C_alloc ?_ _) | (with_reducible refine Kd.C_drewN ?_ _) | (with_reducible refine Kd.C_drew ?_))); (case side6 => exact (Kd.R_reads' HO335.out).2.1); rintro e w55 ⟨rfl, hb⟩; refine ⟨_, rfl, ?_⟩; have n0_ := Aside0.mk (Kd.R_below (onR HO317) hb); have n1_ := Aside0.mk (Kd.R_below (onR HO320) hb); have n2_ := Aside0.mk (Kd.R_below (onR HO323) hb); have n3_ := Aside0.mk (Kd.R_below (onR HO328) hb); have n4_ := Aside0.mk (Kd.R_below (onR HO332) hb); have n5_ := Aside0.mk (Kd.R_below (onR HO335) hb); have n6_ := Aside0.mk (blk_below (bkn BK312) hb); have n7_ := Aside0.mk (blk_below (bkn BK329) hb); have n8_ := Aside0.mk (below_step (bn HB) hb); clear HO317; clear HO320; clear HO323; clear HO328; clear HO332; clear HO335; clear BK312; clear BK329; clear HB; have HO317 := n0_; have HO320 := n1_; have HO323 := n2_; have HO328 := n3_; have HO332 := n4_; have HO335 := n5_; have BK312 := n6_; have BK329 := n7_; have HB := n8_; clear n0_ n1_ n2_ n3_ n4_ n5_ n6_ n7_ n8_; (try clear hb); (try clear hi)))
        have n0_ := Aside0.mk (Kd.R_drew HO317.out)
        have n1_ := Aside0.mk (Kd.R_drew HO320.out)
        have n2_ := Aside0.mk (Kd.R_drew HO323.out)
        have n3_ := Aside0.mk (Kd.R_drew HO328.out)
        have n4_ := Aside0.mk (Kd.R_drew HO332.out)
        have n5_ := Aside0.mk (Kd.R_drew HO335.out)
        have n6_ := Aside0.mk (blk_drew BK312.out)
        have n7_ := Aside0.mk (blk_drew BK329.out)
        have n8_ := Aside0.mk (below_drew1 HB.out)
        clear HO317 HO320 HO323 HO328 HO332 HO335 BK312 BK329 HB
        have HO317 := n0_
        have HO320 := n1_
        have HO323 := n2_
        have HO328 := n3_
        have HO332 := n4_
        have HO335 := n5_
        have BK312 := n6_
        have BK329 := n7_
        have HB := n8_
        clear n0_ n1_ n2_ n3_ n4_ n5_ n6_ n7_ n8_
        refine start_ (n := 5) (S := fun w' => w'.cell? ⟨gb329, 0, none⟩ = some (.int .i64 t325) ∧ w'.cell? ⟨gb329, 1, none⟩ = some (.slice Ao49 t326.length co49) ∧ w'.cell? ⟨gb312, 0, none⟩ = some (.int .i64 a0_0) ∧ w'.cell? ⟨gb312, 1, none⟩ = some (.slice A0_1 l0_1.length c0_1)) (ds := []) #[false, false, false, false, false] (by kernel_rfl) rfl rfl ⟨(blk_cell BK329.out 0).trans rfl, (blk_cell BK329.out 1).trans rfl, (blk_cell BK312.out 0).trans rfl, (blk_cell BK312.out 1).trans rfl⟩ (fun hHeld => ?_)
        generalize w55.drew = w56 at HO317 HO320 HO323 HO328 HO332 HO335 BK312 BK329 HB hHeld ⊢
        refine take_ (i := 0) (N := some 52) (v := ?_) (a' := ?_) #[true, false, false, false, false] rfl rfl (by kernel_rfl) (fun _ _ _ h => h) (Or.inl ⟨by rfl, ?_⟩) hHeld ?_ ?_; rotate_left; (rintro w' ⟨s0, s1, s2, s3⟩; go_simp; with_reducible rfl); rotate_left; (simp only [Act.put, List.setIfInBounds_toArray, List.set_cons_zero, List.set_cons_succ, i64_w, i32_w]; rfl)
        refine take_ (i := 1) (N := some 53) (v := ?_) (a' := ?_) #[true, true, false, false, false] rfl rfl (by kernel_rfl) (fun _ _ _ h => h) (Or.inl ⟨by rfl, ?_⟩) hHeld ?_ ?_; rotate_left; (rintro w' ⟨s0, s1, s2, s3⟩; go_simp; with_reducible rfl); rotate_left; (simp only [Act.put, List.setIfInBounds_toArray, List.set_cons_zero, List.set_cons_succ, i64_w, i32_w]; rfl)
        refine one_ (i := 2) (N := some 54) #[true, true, true, false, false] rfl rfl (by kernel_rfl) (by decide) (fun K hK => ?_)
        refine gg_ Try.func32 #[.agg #[.int .i64 a0_0, .slice A0_1 l0_1.length c0_1]] ?_
        with_reducible refine (laws_toNet.calls k a0_0 _ _ l0_1 t337 t338 _ ?side1 ?side2 A24.out).mono ?_
        (case side1 => repeat (first | exact (Kd.C_below HR0_1.out HB.out) | (with_reducible refine Kd.C_alloc ?_ _) | (with_reducible refine Kd.C_drewN ?_ _) | (with_reducible refine Kd.C_drew ?_)))
        (case side2 => exact HC0_1.out)
        rintro e w57 ⟨v339, rfl, ho0, hb⟩
        refine ⟨_, rfl, ?_⟩
        have n0_ := Aside0.mk (Kd.R_elder' (onR HO317) (Kd.R_base ho0) hb)
        have n1_ := Aside0.mk (Kd.R_below (onR HO320) hb)
        have n2_ := Aside0.mk (Kd.R_below (onR HO323) hb)
        have n3_ := Aside0.mk (Kd.R_elder' (onR HO328) (Kd.R_base ho0) hb)
        have n4_ := Aside0.mk (Kd.R_below (onR HO332) hb)
        have n5_ := Aside0.mk (Kd.R_below (onR HO335) hb)
        have n6_ := Aside0.mk (Kd.R_lower (Kd.R_new' (Kd.R_new' ho0 (Kd.R_lt (onR HO317))) (Kd.R_lt (onR HO328))) (below_size (bn HB)))
        have n7_ := Aside0.mk (blk_below (bkn BK312) hb)
        have n8_ := Aside0.mk (blk_below (bkn BK329) hb)
        have n9_ := Aside0.mk (below_step (bn HB) hb)
        clear HO317 HO320 HO323 HO328 HO332 HO335 BK312 BK329 HB
        have HO317 := n0_
        have HO320 := n1_
        have HO323 := n2_
        have HO328 := n3_
        have HO332 := n4_
        have HO335 := n5_
        have HO340 := n6_
        have BK312 := n7_
        have BK329 := n8_
        have HB := n9_
        clear n0_ n1_ n2_ n3_ n4_ n5_ n6_ n7_ n8_ n9_
        (try clear hb)
        (try clear hb2)
        (try clear hk)
        (try clear hi)
        (try clear ho0)
        obtain ⟨Ao58, co58, eo58⟩ := Kd.R_slice HO340.out
        (first | subst eo58 | (injection eo58 with f1_ f2_ f3_; have f4_ := f1_.symm; have f5_ := f3_.symm; clear f1_ f2_ f3_; subst f4_; subst f5_))
        refine hK.out _ _ ⟨(blk_cell BK329.out 0).trans rfl, (blk_cell BK329.out 1).trans rfl, (blk_cell BK312.out 0).trans rfl, (blk_cell BK312.out 1).trans rfl⟩ (fun hHeld => ?_)
        clear hK K
        refine norm_ (a' := ?_) ?_ ?_
        rotate_left
        ·show Act.put _ (some 54) _ = _
         simp only [Act.put, List.setIfInBounds_toArray, List.set_cons_zero, List.set_cons_succ, i64_w, i32_w]
         rfl
        refine one_ (i := 3) (N := some 55) #[true, true, true, true, false] rfl rfl (by kernel_rfl) (by decide) (fun K hK => ?_)
        refine gg_ Try.func34 #[.agg #[.int .i64 t325, .slice Ao49 t326.length co49], .agg #[.int .i64 t337, .slice Ao58 t338.length co58]] ?_
        with_reducible refine (laws_eqNet.calls k t325 _ _ t326 t337 _ _ t338 true _ ?side1 ?side2 ?side3 ?side4 A25.out).mono ?_
        (case side1 => repeat (first | exact (Kd.R_reads' HO328.out).2.2 | (with_reducible refine Kd.C_alloc ?_ _) | (with_reducible refine Kd.C_drewN ?_ _) | (with_reducible refine Kd.C_drew ?_)))
        (case side2 => exact (Kd.R_reads' HO328.out).2.1)
        (case side3 => repeat (first | exact (Kd.R_reads' HO340.out).2.2 | (with_reducible refine Kd.C_alloc ?_ _) | (with_reducible refine Kd.C_drewN ?_ _) | (with_reducible refine Kd.C_drew ?_)))
        (case side4 => exact (Kd.R_reads' HO340.out).2.1)
        rintro e w59 ⟨rfl, hb⟩
        refine ⟨_, rfl, ?_⟩
        have n0_ := Aside0.mk (Kd.R_below (onR HO317) hb)
        have n1_ := Aside0.mk (Kd.R_below (onR HO320) hb)
        have n2_ := Aside0.mk (Kd.R_below (onR HO323) hb)
        have n3_ := Aside0.mk (Kd.R_below (onR HO328) hb)
        have n4_ := Aside0.mk (Kd.R_below (onR HO332) hb)
        have n5_ := Aside0.mk (Kd.R_below (onR HO335) hb)
        have n6_ := Aside0.mk (Kd.R_below (onR HO340) hb)
        have n7_ := Aside0.mk (blk_below (bkn BK312) hb)
        have n8_ := Aside0.mk (blk_below (bkn BK329) hb)
        have n9_ := Aside0.mk (below_step (bn HB) hb)
        clear HO317 HO320 HO323 HO328 HO332 HO335 HO340 BK312 BK329 HB
        have HO317 := n0_
        have HO320 := n1_
        have HO323 := n2_
        have HO328 := n3_
        have HO332 := n4_
        have HO335 := n5_
        have HO340 := n6_
        have BK312 := n7_
        have BK329 := n8_
        have HB := n9_
        clear n0_ n1_ n2_ n3_ n4_ n5_ n6_ n7_ n8_ n9_
        (try clear hb)
        (try clear hb2)
        (try clear hk)
        (try clear hi)
        refine hK.out _ _ ⟨(blk_cell BK329.out 0).trans rfl, (blk_cell BK329.out 1).trans rfl, (blk_cell BK312.out 0).trans rfl, (blk_cell BK312.out 1).trans rfl⟩ (fun hHeld => ?_)
        clear hK K
        refine norm_ (a' := ?_) ?_ ?_
        rotate_left
        ·show Act.put _ (some 55) _ = _
         simp only [Act.put, List.setIfInBounds_toArray, List.set_cons_zero, List.set_cons_succ, i64_w, i32_w]
         rfl
        refine pure_ (i := 4) (N := some 56) (v := ?_) (a' := ?_) #[true, true, true, true, true] rfl rfl (by kernel_rfl) (fun _ _ _ h => h) (Or.inl ⟨by rfl, ?_⟩) ?_ ?_; rotate_left; (intro w'; go_simp; with_reducible rfl); rotate_left; (simp only [Act.put, List.setIfInBounds_toArray, List.set_cons_zero, List.set_cons_succ, i64_w, i32_w]; rfl)
        refine done_ (by kernel_rfl) ?_
        try go_wp2_with (first | ((with_reducible refine gate_callee (f := 38) rfl ?_); refine gl_ (some 59) Try.func38 #[.slice A3 l3.length c3] ?_; (with_reducible refine (laws_toIntS.calls k _ _ l3 t342 _ ?side1 ?side2 A27.out).mono ?_); (case side1 => repeat (first | exact (Kd.C_below HR3.out HB.out) | (with_reducible refine Kd.C_alloc ?_ _) | (with_reducible refine Kd.C_drewN ?_ _) | (with_reducible refine Kd.C_drew ?_))); (case side2 => exact HC3.out); rintro e w60 ⟨v343, rfl, ho0, hb⟩; refine ⟨_, rfl, ?_⟩; have n0_ := Aside0.mk (Kd.R_below (onR HO317) hb); have n1_ := Aside0.mk (Kd.R_elder' (onR HO320) (Kd.R_base ho0) hb); have n2_ := Aside0.mk (Kd.R_elder' (onR HO323) (Kd.R_base ho0) hb); have n3_ := Aside0.mk (Kd.R_below (onR HO328) hb); have n4_ := Aside0.mk (Kd.R_elder' (onR HO332) (Kd.R_base ho0) hb); have n5_ := Aside0.mk (Kd.R_elder' (onR HO335) (Kd.R_base ho0) hb); have n6_ := Aside0.mk (Kd.R_below (onR HO340) hb); have n7_ := Aside0.mk (Kd.R_lower (Kd.R_new' (Kd.R_new' (Kd.R_new' (Kd.R_new' ho0 (Kd.R_lt (onR HO320))) (Kd.R_lt (onR HO323))) (Kd.R_lt (onR HO332))) (Kd.R_lt (onR HO335))) (below_size (bn HB))); have n8_ := Aside0.mk (blk_below (bkn BK312) hb); have n9_ := Aside0.mk (blk_below (bkn BK329) hb); have n10_ := Aside0.mk (below_step (bn HB) hb); clear HO317; clear HO320; clear HO323; clear HO328; clear HO332; clear HO335; clear HO340; clear BK312; clear BK329; clear HB; have HO317 := n0_; have HO320 := n1_; have HO323 := n2_; have HO328 := n3_; have HO332 := n4_; have HO335 := n5_; have HO340 := n6_; have HO344 := n7_; have BK312 := n8_; have BK329 := n9_; have HB := n10_; clear n0_ n1_ n2_ n3_ n4_ n5_ n6_ n7_ n8_ n9_ n10_; (try clear hb); (try clear ho0); obtain ⟨Ao61, co61, eo61⟩ := Kd.R_slice HO344.out; subst eo61) | ((with_reducible refine gate_callee (f := 40) rfl ?_); refine gl_ (some 60) Try.func40 #[.slice Ao53 t330.length co53, .slice Ao61 t342.length co61] ?_; (with_reducible refine (laws_eqIntS.calls k _ _ t330 _ _ t342 true _ ?side1 ?side2 ?side3 ?side4 A28.out).mono ?_); (case side1 => repeat (first | exact (Kd.R_reads' HO332.out).2.2 | (with_reducible refine Kd.C_alloc ?_ _) | (with_reducible refine Kd.C_drewN ?_ _) | (with_reducible refine Kd.C_drew ?_))); (case side2 => exact (Kd.R_reads' HO332.out).2.1); (case side3 => repeat (first | exact (Kd.R_reads' HO344.out).2.2 | (with_reducible refine Kd.C_alloc ?_ _) | (with_reducible refine Kd.C_drewN ?_ _) | (with_reducible refine Kd.C_drew ?_))); (case side4 => exact (Kd.R_reads' HO344.out).2.1); rintro e w' ⟨rfl, ⟨nd, rfl⟩⟩; refine ⟨_, rfl, ?_⟩) | ((with_reducible refine gate_callee (f := 38) rfl ?_); refine gl_ (some 64) Try.func38 #[.slice A4 l4.length c4] ?_; (with_reducible refine (laws_toIntS.calls k _ _ l4 t346 _ ?side1 ?side2 A30.out).mono ?_); (case side1 => repeat (first | exact (Kd.C_below HR4.out (bn HB)) | (with_reducible refine Kd.C_alloc ?_ _) | (with_reducible refine Kd.C_drewN ?_ _) | (with_reducible refine Kd.C_drew ?_))); (case side2 => exact HC4.out); rintro e w62 ⟨v347, rfl, ho0, hb⟩; refine ⟨_, rfl, ?_⟩; have n0_ := Aside0.mk (Kd.R_below (onR HO317) hb); have n1_ := Aside0.mk (Kd.R_elder' (onR HO320) (Kd.R_base ho0) hb); have n2_ := Aside0.mk (Kd.R_elder' (onR HO323) (Kd.R_base ho0) hb); have n3_ := Aside0.mk (Kd.R_below (onR HO328) hb); have n4_ := Aside0.mk (Kd.R_elder' (onR HO332) (Kd.R_base ho0) hb); have n5_ := Aside0.mk (Kd.R_elder' (onR HO335) (Kd.R_base ho0) hb); have n6_ := Aside0.mk (Kd.R_below (onR HO340) hb); have n7_ := Aside0.mk (Kd.R_elder' (onR HO344) (Kd.R_base ho0) hb); have n8_ := Aside0.mk (Kd.R_lower (Kd.R_new' (Kd.R_new' (Kd.R_new' (Kd.R_new' (Kd.R_new' ho0 (Kd.R_lt (onR HO320))) (Kd.R_lt (onR HO323))) (Kd.R_lt (onR HO332))) (Kd.R_lt (onR HO335))) (Kd.R_lt (onR HO344))) (below_size (bn HB))); have n9_ := Aside0.mk (blk_below (bkn BK312) hb); have n10_ := Aside0.mk (blk_below (bkn BK329) hb); have n11_ := Aside0.mk (below_step (bn HB) hb); clear HO317; clear HO320; clear HO323; clear HO328; clear HO332; clear HO335; clear HO340; clear HO344; clear BK312; clear BK329; clear HB; have HO317 := n0_; have HO320 := n1_; have HO323 := n2_; have HO328 := n3_; have HO332 := n4_; have HO335 := n5_; have HO340 := n6_; have HO344 := n7_; have HO348 := n8_; have BK312 := n9_; have BK329 := n10_; have HB := n11_; clear n0_ n1_ n2_ n3_ n4_ n5_ n6_ n7_ n8_ n9_ n10_ n11_; (try clear hb); (try clear ho0); obtain ⟨Ao63, co63, eo63⟩ := Kd.R_slice HO348.out; subst eo63) | ((with_reducible refine gate_callee (f := 40) rfl ?_); refine gl_ (some 65) Try.func40 #[.slice Ao54 t333.length co54, .slice Ao63 t346.length co63] ?_; (with_reducible refine (laws_eqIntS.calls k _ _ t333 _ _ t346 true _ ?side1 ?side2 ?side3 ?side4 A31.out).mono ?_); (case side1 => repeat (first | exact (Kd.R_reads' HO335.out).2.2 | (with_reducible refine Kd.C_alloc ?_ _) | (with_reducible refine Kd.C_drewN ?_ _) | (with_reducible refine Kd.C_drew ?_))); (case side2 => exact (Kd.R_reads' HO335.out).2.1); (case side3 => repeat (first | exact (Kd.R_reads' HO348.out).2.2 | (with_reducible refine Kd.C_alloc ?_ _) | (with_reducible refine Kd.C_drewN ?_ _) | (with_reducible refine Kd.C_drew ?_))); (case side4 => exact (Kd.R_reads' HO348.out).2.1); rintro e w' ⟨rfl, ⟨nd, rfl⟩⟩; refine ⟨_, rfl, ?_⟩))
        go_ret
        exact ⟨by first | rfl | (simp [errW_none, errW_some] <;> rfl) | (simp [*, errW_none, errW_some] <;> rfl), bn HB⟩
       ·replace c32 := Bool.eq_false_iff.mpr c32
        subst c32
        rw [if_neg (show ¬ (false = true) by decide)] at H
        exact absurd (Option.some.inj H) (by rw [hrt.out]; decide)
      ·replace c29 := Bool.eq_false_iff.mpr c29
       subst c29
       rw [if_neg (show ¬ (false = true) by decide)] at H
       exact absurd (Option.some.inj H) (by rw [hrt.out]; decide)
     ·replace c26 := Bool.eq_false_iff.mpr c26
      subst c26
      rw [if_neg (show ¬ (false = true) by decide)] at H
      exact absurd (Option.some.inj H) (by rw [hrt.out]; decide)

/-- what is to be proved of laws_FnExactTwoOk, without Go -/
def laws_FnExactTwoOk.Pure : Prop := ∀ (a0_0 : Int) (l0_1 : List (S96)) (a1 : Int) (a2 : Int) (l3 : List Int) (l4 : List Int), ((Lit.int .i64 a0_0).wf = true) → (l0_1.length ≤ maxLen ∧ ∀ l0_1_ ∈ l0_1, (((Lit.int .i64 l0_1_.f0).wf = true) ∧ ((Lit.int .i64 l0_1_.f1).wf = true))) → ((Lit.int .i64 a1).wf = true) → ((Lit.int .i64 a2).wf = true) → (l3.length ≤ maxLen ∧ ∀ l3_ ∈ l3, ((Lit.int .i64 l3_).wf = true)) → (l4.length ≤ maxLen ∧ ∀ l4_ ∈ l4, ((Lit.int .i64 l4_).wf = true)) → ∃ k, laws_FnExactTwoOk.f k a0_0 l0_1 a1 a2 l3 l4 = some true

end Go.Proofs.Ytdlnnjgjfngccaa.F
