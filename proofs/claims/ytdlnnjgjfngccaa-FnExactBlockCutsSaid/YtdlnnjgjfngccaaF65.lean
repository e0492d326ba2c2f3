-- Written by oprint.py (wip/tools) over the kit's print program, for this seat.
import Derived.Test.YtdlnnjgjfngccaaF0
import Derived.Test.YtdlnnjgjfngccaaF5
import Derived.Test.YtdlnnjgjfngccaaF53
import Derived.Test.YtdlnnjgjfngccaaF60
import Derived.Test.YtdlnnjgjfngccaaF63
import Derived.Test.YtdlnnjgjfngccaaF64
import Derived.Test.YtdlnnjgjfngccaaF7
namespace Go.Proofs.Ytdlnnjgjfngccaa.F
open Go.RowKit Go.Proofs.YtdlnnjgjfngccaaW.PrintWords Go.Proofs.YtdlnnjgjfngccaaW.PrintLast Go.Proofs.YtdlnnjgjfngccaaW.PrintMore
attribute [local go_sem] max2_int min2_int max_two min_two max_three min_three max_four min_four   -- for this text's walks alone
set_option linter.unusedVariables false
set_option linter.unusedSimpArgs false

/-! ### laws_FnExactBlockCuts: function 14 -/
def laws_FnExactBlockCuts.j0 : Nat → List Int → List Int → Bool → Int → List (S96) → Option (Bool)
 | 0, _, _, _, _, _ => none
 | k + 1, x4, x6, x42, x966000, x966001 => if x42 = true then (some false) else ((laws_markIntS.f k x6 1).bind fun bt991 => ((laws_heldIntS.f k bt991.2 1).bind fun t993 => (if t993 < 0 then (some false) else (if t993 = bt991.1 then ((laws_toNet.f k x966000 x966001).bind fun bt994 => ((impl_BlockCuts.f k bt994.1 bt994.2).bind fun t998 => ((laws_eqIntS.f k t998 x4).bind fun t1001 => (if t1001 = true then ((laws_heldIntS.f k bt991.2 1).bind fun t1002 => (if t1002 < 0 then (some false) else (if t1002 = bt991.1 then (some true) else (some false)))) else (some false))))) else (some false)))))
def laws_FnExactBlockCuts.f (k : Nat) (a0_0 : Int) (l0_1 : List (S96)) : Option (Bool) := (laws_szNet.f a0_0 l0_1 1048576).bind fun t966 => (if t966 < 0 then (some true) else ((laws_toNet.f k a0_0 l0_1).bind fun bt967 => ((spec_BlockCuts.f k bt967.1 bt967.2).bind fun t971 => ((laws_toNet.f k a0_0 l0_1).bind fun bt974 => ((impl_BlockCuts.f k bt974.1 bt974.2).bind fun t979 => ((laws_eqIntS.f k t979 t971).bind fun t982 => (if t982 = true then ((laws_toNet.f k a0_0 l0_1).bind fun bt983 => ((laws_eqNet.f k bt974.1 bt974.2 bt983.1 bt983.2).bind fun t987 => (if t987 = true then ((laws_markNet.f k bt974.1 bt974.2 1).bind fun bt988 => (if bt988.1 < 0 then (laws_FnExactBlockCuts.j0 k t971 t979 true a0_0 l0_1) else ((laws_eqIntS.f k t979 t971).bind fun t990 => (laws_FnExactBlockCuts.j0 k t971 t979 (!t990) a0_0 l0_1)))) else (some false)))) else (some false))))))))
theorem laws_FnExactBlockCuts.mono_l : ∀ k, (∀ y0 y1 y2 y3 y4, LeO (laws_FnExactBlockCuts.j0 k y0 y1 y2 y3 y4) (laws_FnExactBlockCuts.j0 (k + 1) y0 y1 y2 y3 y4))
 | 0 => fun _ _ _ _ _ r h => by simp [laws_FnExactBlockCuts.j0] at h
 | k + 1 => by
  have ih0 := laws_FnExactBlockCuts.mono_l k
  ·intro y0 y1 y2 y3 y4
   unfold laws_FnExactBlockCuts.j0
   repeat' first
   | (with_reducible exact ih0 _ _ _ _ _)
   | (with_reducible exact impl_BlockCuts.mono _ _ _)
   | (with_reducible exact laws_eqIntS.mono _ _ _)
   | (with_reducible exact laws_eqNet.mono _ _ _ _ _)
   | (with_reducible exact laws_heldIntS.mono _ _ _)
   | (with_reducible exact laws_markIntS.mono _ _ _)
   | (with_reducible exact laws_markNet.mono _ _ _ _)
   | (with_reducible exact laws_toNet.mono _ _ _)
   | (with_reducible exact spec_BlockCuts.mono _ _ _)
   | (with_reducible exact LeO.refl _)
   | (with_reducible exact LeO.none _)
   | (with_reducible refine LeO.ite ?_ ?_)
   | (with_reducible refine LeO.bind ?_ (fun _ => ?_))
   | exact ih0 _ _ _ _ _
   | exact impl_BlockCuts.mono _ _ _
   | exact laws_eqIntS.mono _ _ _
   | exact laws_eqNet.mono _ _ _ _ _
   | exact laws_heldIntS.mono _ _ _
   | exact laws_markIntS.mono _ _ _
   | exact laws_markNet.mono _ _ _ _
   | exact laws_toNet.mono _ _ _
   | exact spec_BlockCuts.mono _ _ _
   | exact LeO.none _
   | refine LeO.ite ?_ ?_
   | refine LeO.bind ?_ (fun _ => ?_)
theorem laws_FnExactBlockCuts.mono : ∀ a0 a1 k, LeO (laws_FnExactBlockCuts.f k a0 a1) (laws_FnExactBlockCuts.f (k + 1) a0 a1) := by
 intro a0 a1 k
 have ih0 := laws_FnExactBlockCuts.mono_l k
 unfold laws_FnExactBlockCuts.f
 repeat' first
   | (with_reducible exact ih0 _ _ _ _ _)
   | (with_reducible exact impl_BlockCuts.mono _ _ _)
   | (with_reducible exact laws_eqIntS.mono _ _ _)
   | (with_reducible exact laws_eqNet.mono _ _ _ _ _)
   | (with_reducible exact laws_heldIntS.mono _ _ _)
   | (with_reducible exact laws_markIntS.mono _ _ _)
   | (with_reducible exact laws_markNet.mono _ _ _ _)
   | (with_reducible exact laws_toNet.mono _ _ _)
   | (with_reducible exact spec_BlockCuts.mono _ _ _)
   | (with_reducible exact LeO.refl _)
   | (with_reducible exact LeO.none _)
   | (with_reducible refine LeO.ite ?_ ?_)
   | (with_reducible refine LeO.bind ?_ (fun _ => ?_))
   | exact ih0 _ _ _ _ _
   | exact impl_BlockCuts.mono _ _ _
   | exact laws_eqIntS.mono _ _ _
   | exact laws_eqNet.mono _ _ _ _ _
   | exact laws_heldIntS.mono _ _ _
   | exact laws_markIntS.mono _ _ _
   | exact laws_markNet.mono _ _ _ _
   | exact laws_toNet.mono _ _ _
   | exact spec_BlockCuts.mono _ _ _
   | exact LeO.none _
   | refine LeO.ite ?_ ?_
   | refine LeO.bind ?_ (fun _ => ?_)
set_option maxHeartbeats 8000000 in
set_option maxRecDepth 100000 in
theorem laws_FnExactBlockCuts.calls (k : Nat) (a0_0 : Int) (A0_1 : Option Addr) (c0_1 : Nat) (l0_1 : List (S96)) (r : Bool) (w : World) (hr0_1 : Kd.C k96 w A0_1 l0_1.length l0_1) (hc0_1 : l0_1.length ≤ c0_1) (hrt : Aside0 (r = true)) (h : laws_FnExactBlockCuts.f k a0_0 l0_1 = some r) :
  Calls Try.prog 14 #[.agg #[.int .i64 a0_0, .slice A0_1 l0_1.length c0_1]] w fun e w' => e = .returned (.bool r) ∧ Below w.heap.size w w' := by
 have hu29 := Try.underlying29
 have hu34 := Try.underlying34
 have HR0_1 := Aside0.mk hr0_1
 have HC0_1 := Aside0.mk hc0_1
 clear hr0_1 hc0_1
 have HB := Aside0.mk (Below.refl w.heap.size w)
 have H : ((laws_szNet.f a0_0 l0_1 1048576).bind fun t966 => (if t966 < 0 then (some true) else ((laws_toNet.f k a0_0 l0_1).bind fun bt967 => ((spec_BlockCuts.f k bt967.1 bt967.2).bind fun t971 => ((laws_toNet.f k a0_0 l0_1).bind fun bt974 => ((impl_BlockCuts.f k bt974.1 bt974.2).bind fun t979 => ((laws_eqIntS.f k t979 t971).bind fun t982 => (if t982 = true then ((laws_toNet.f k a0_0 l0_1).bind fun bt983 => ((laws_eqNet.f k bt974.1 bt974.2 bt983.1 bt983.2).bind fun t987 => (if t987 = true then ((laws_markNet.f k bt974.1 bt974.2 1).bind fun bt988 => (if bt988.1 < 0 then (laws_FnExactBlockCuts.j0 k t971 t979 true a0_0 l0_1) else ((laws_eqIntS.f k t979 t971).bind fun t990 => (laws_FnExactBlockCuts.j0 k t971 t979 (!t990) a0_0 l0_1)))) else (some false)))) else (some false))))))))) = some r := h
 clear h
 replace H := Option.bind_eq_some_iff.mp H
 obtain ⟨t966, A20, H⟩ := H
 (try dsimp only at H)
 have A2 := Aside0.mk A20
 clear A20
 by_cases c3 : t966 < 0
 ·rw [if_pos c3] at H
  have c3b0 := decide_eq_true c3
  clear c3
  obtain rfl := Option.some.inj H
  go_enter Try.func14, Try.ntmps14
  go_wp2_with (first | ((with_reducible refine gate_dst (N := 1) rfl ?_); refine box_event ?hg (N := 1) ?hd (cs := #[.int .i64 a0_0, .slice A0_1 l0_1.length c0_1]) (t := 29) ?hr ?_; (case hd => rfl); (case hg => rfl); (case hr => first | (go_simp; done) | (go_simp; rfl)); intro gb965 hg w4 hbox hb; have n0_ := Aside0.mk (below_step (bn HB) hb); have n1_ := Aside0.mk (hbox); have n2_ := Aside0.mk ((by rw [hg]; exact (below_size (bn HB)) : w.heap.size ≤ gb965)); have n3_ := Aside0.mk ((by rw [hg]; exact (below_size (bn HB)) : w.heap.size ≤ gb965)); clear HB; have HB := n0_; have BK965 := n1_; have GW965 := n2_; have GE965 := n3_; clear n0_ n1_ n2_ n3_; clear hb hbox hg; have hcz5_0 := bc BK965 0; have hcz5_1 := bc BK965 1; have hfz5_0 := blk_frozen BK965.out 0; have hfz5_1 := blk_frozen BK965.out 1) | ((with_reducible refine gate_callee (f := 30) rfl ?_); refine gl_ (some 13) Try.func30 #[.agg #[.int .i64 a0_0, .slice A0_1 l0_1.length c0_1], .int .i64 1048576] ?_; (with_reducible refine (laws_szNet.calls a0_0 _ _ l0_1 1048576 t966 _ ?side1 ?side2 A2.out).mono ?_); (case side1 => repeat (first | exact (Kd.C_below HR0_1.out HB.out) | (with_reducible refine Kd.C_alloc ?_ _) | (with_reducible refine Kd.C_drewN ?_ _) | (with_reducible refine Kd.C_drew ?_))); (case side2 => exact HC0_1.out); rintro e w6 ⟨rfl, hb⟩; refine ⟨_, rfl, ?_⟩; have n0_ := Aside0.mk (blk_below (bkn BK965) hb); have n1_ := Aside0.mk (below_step (bn HB) hb); clear BK965; clear HB; have BK965 := n0_; have HB := n1_; clear n0_ n1_; (try clear hb); (try clear hi)))
  go_ret
  exact ⟨by first | rfl | (simp [errW_none, errW_some] <;> rfl) | (simp [*, errW_none, errW_some] <;> rfl), bn HB⟩
 ·rw [if_neg c3] at H
  have c3b0 := decide_eq_false c3
  clear c3
  replace H := Option.bind_eq_some_iff.mp H
  obtain ⟨⟨t967, t968⟩, A70, H⟩ := H
  (try dsimp only at H)
  have A7 := Aside0.mk A70
  clear A70
  replace H := Option.bind_eq_some_iff.mp H
  obtain ⟨t971, A80, H⟩ := H
  (try dsimp only at H)
  have A8 := Aside0.mk A80
  clear A80
  replace H := Option.bind_eq_some_iff.mp H
  obtain ⟨⟨t974, t975⟩, A90, H⟩ := H
  (try dsimp only at H)
  have A9 := Aside0.mk A90
  clear A90
  replace H := Option.bind_eq_some_iff.mp H
  obtain ⟨t979, A100, H⟩ := H
  (try dsimp only at H)
  have A10 := Aside0.mk A100
  clear A100
  replace H := Option.bind_eq_some_iff.mp H
  obtain ⟨t982, A110, H⟩ := H
  (try dsimp only at H)
  have A11 := Aside0.mk A110
  clear A110
  by_cases c12 : t982 = true
  ·subst c12
   rw [if_pos rfl] at H
   replace H := Option.bind_eq_some_iff.mp H
   obtain ⟨⟨t983, t984⟩, A130, H⟩ := H
   (try dsimp only at H)
   have A13 := Aside0.mk A130
   clear A130
   replace H := Option.bind_eq_some_iff.mp H
   obtain ⟨t987, A140, H⟩ := H
   (try dsimp only at H)
   have A14 := Aside0.mk A140
   clear A140
   by_cases c15 : t987 = true
   ·subst c15
    rw [if_pos rfl] at H
    replace H := Option.bind_eq_some_iff.mp H
    obtain ⟨⟨t988, t989⟩, A160, H⟩ := H
    (try dsimp only at H)
    have A16 := Aside0.mk A160
    clear A160
    have HC17 := Aside0.mk H
    clear H
    go_enter Try.func14, Try.ntmps14
    try go_wp2_with (first | ((with_reducible refine gate_dst (N := 1) rfl ?_); refine box_event ?hg (N := 1) ?hd (cs := #[.int .i64 a0_0, .slice A0_1 l0_1.length c0_1]) (t := 29) ?hr ?_; (case hd => rfl); (case hg => rfl); (case hr => first | (go_simp; done) | (go_simp; rfl)); intro gb965 hg w18 hbox hb; have n0_ := Aside0.mk (below_step (bn HB) hb); have n1_ := Aside0.mk (hbox); have n2_ := Aside0.mk ((by rw [hg]; exact (below_size (bn HB)) : w.heap.size ≤ gb965)); have n3_ := Aside0.mk ((by rw [hg]; exact (below_size (bn HB)) : w.heap.size ≤ gb965)); clear HB; have HB := n0_; have BK965 := n1_; have GW965 := n2_; have GE965 := n3_; clear n0_ n1_ n2_ n3_; clear hb hbox hg; have hcz19_0 := bc BK965 0; have hcz19_1 := bc BK965 1; have hfz19_0 := blk_frozen BK965.out 0; have hfz19_1 := blk_frozen BK965.out 1) | ((with_reducible refine gate_callee (f := 30) rfl ?_); refine gl_ (some 13) Try.func30 #[.agg #[.int .i64 a0_0, .slice A0_1 l0_1.length c0_1], .int .i64 1048576] ?_; (with_reducible refine (laws_szNet.calls a0_0 _ _ l0_1 1048576 t966 _ ?side1 ?side2 A2.out).mono ?_); (case side1 => repeat (first | exact (Kd.C_below HR0_1.out HB.out) | (with_reducible refine Kd.C_alloc ?_ _) | (with_reducible refine Kd.C_drewN ?_ _) | (with_reducible refine Kd.C_drew ?_))); (case side2 => exact HC0_1.out); rintro e w20 ⟨rfl, hb⟩; refine ⟨_, rfl, ?_⟩; have n0_ := Aside0.mk (blk_below (bkn BK965) hb); have n1_ := Aside0.mk (below_step (bn HB) hb); clear BK965; clear HB; have BK965 := n0_; have HB := n1_; clear n0_ n1_; (try clear hb); have hcz21_0 := bc BK965 0; have hcz21_1 := bc BK965 1; have hfz21_0 := blk_frozen BK965.out 0; have hfz21_1 := blk_frozen BK965.out 1) | ((with_reducible refine gate_callee (f := 32) rfl ?_); refine gl_ (some 17) Try.func32 #[.agg #[.int .i64 a0_0, .slice A0_1 l0_1.length c0_1]] ?_; (with_reducible refine (laws_toNet.calls k a0_0 _ _ l0_1 t967 t968 _ ?side1 ?side2 A7.out).mono ?_); (case side1 => repeat (first | exact (Kd.C_below HR0_1.out HB.out) | (with_reducible refine Kd.C_alloc ?_ _) | (with_reducible refine Kd.C_drewN ?_ _) | (with_reducible refine Kd.C_drew ?_))); (case side2 => exact HC0_1.out); rintro e w22 ⟨v969, rfl, ho0, hb⟩; refine ⟨_, rfl, ?_⟩; have n0_ := Aside0.mk (Kd.R_lower ho0 (below_size (bn HB))); have n1_ := Aside0.mk (blk_below (bkn BK965) hb); have n2_ := Aside0.mk (below_step (bn HB) hb); clear BK965; clear HB; have HO970 := n0_; have BK965 := n1_; have HB := n2_; clear n0_ n1_ n2_; (try clear hb); (try clear ho0); obtain ⟨Ao23, co23, eo23⟩ := Kd.R_slice HO970.out; subst eo23) | ((with_reducible refine gate_callee (f := 58) rfl ?_); refine gl_ (some 18) Try.func58 #[.agg #[.int .i64 t967, .slice Ao23 t968.length co23]] ?_; (with_reducible refine (spec_BlockCuts.calls k t967 _ _ t968 t971 _ ?side1 ?side2 A8.out).mono ?_); (case side1 => repeat (first | exact (Kd.R_reads' HO970.out).2.2 | (with_reducible refine Kd.C_alloc ?_ _) | (with_reducible refine Kd.C_drewN ?_ _) | (with_reducible refine Kd.C_drew ?_))); (case side2 => exact (Kd.R_reads' HO970.out).2.1); rintro e w24 ⟨v972, rfl, ho0, hb⟩; refine ⟨_, rfl, ?_⟩; have n0_ := Aside0.mk (Kd.R_below (onR HO970) hb); have n1_ := Aside0.mk (Kd.R_lower ho0 (below_size (bn HB))); have n2_ := Aside0.mk (blk_below (bkn BK965) hb); have n3_ := Aside0.mk (below_step (bn HB) hb); clear HO970; clear BK965; clear HB; have HO970 := n0_; have HO973 := n1_; have BK965 := n2_; have HB := n3_; clear n0_ n1_ n2_ n3_; (try clear hb); (try clear ho0); have hcz25_0 := bc BK965 0; have hcz25_1 := bc BK965 1; have hfz25_0 := blk_frozen BK965.out 0; have hfz25_1 := blk_frozen BK965.out 1) | ((with_reducible refine gate_callee (f := 32) rfl ?_); refine gl_ (some 20) Try.func32 #[.agg #[.int .i64 a0_0, .slice A0_1 l0_1.length c0_1]] ?_; (with_reducible refine (laws_toNet.calls k a0_0 _ _ l0_1 t974 t975 _ ?side1 ?side2 A9.out).mono ?_); (case side1 => repeat (first | exact (Kd.C_below HR0_1.out HB.out) | (with_reducible refine Kd.C_alloc ?_ _) | (with_reducible refine Kd.C_drewN ?_ _) | (with_reducible refine Kd.C_drew ?_))); (case side2 => exact HC0_1.out); rintro e w26 ⟨v976, rfl, ho0, hb⟩; refine ⟨_, rfl, ?_⟩; have n0_ := Aside0.mk (Kd.R_elder' (onR HO970) (Kd.R_base ho0) hb); have n1_ := Aside0.mk (Kd.R_below (onR HO973) hb); have n2_ := Aside0.mk (Kd.R_lower (Kd.R_new' ho0 (Kd.R_lt (onR HO970))) (below_size (bn HB))); have n3_ := Aside0.mk (blk_below (bkn BK965) hb); have n4_ := Aside0.mk (below_step (bn HB) hb); clear HO970; clear HO973; clear BK965; clear HB; have HO970 := n0_; have HO973 := n1_; have HO977 := n2_; have BK965 := n3_; have HB := n4_; clear n0_ n1_ n2_ n3_ n4_; (try clear hb); (try clear ho0)) | ((with_reducible refine gate_dst (N := 5) rfl ?_); refine box_event ?hg (N := 5) ?hd (cs := #[.int .i64 0, .slice none 0 0]) (t := 34) ?hr ?_; (case hd => rfl); (case hg => rfl); (case hr => first | (go_simp; done) | (go_simp; rfl)); intro gb978 hg w27 hbox hb; have n0_ := Aside0.mk (Kd.R_below (onR HO970) hb); have n1_ := Aside0.mk (Kd.R_below (onR HO973) hb); have n2_ := Aside0.mk (Kd.R_below (onR HO977) hb); have n3_ := Aside0.mk (blk_below (bkn BK965) hb); have n4_ := Aside0.mk (below_step (bn HB) hb); have n5_ := Aside0.mk (hbox); have n6_ := Aside0.mk ((by rw [hg]; exact (below_size (bn HB)) : w.heap.size ≤ gb978)); have n7_ := Aside0.mk ((by rw [hg]; exact (below_size (bn HB)) : w.heap.size ≤ gb978)); have n8_ := Aside0.mk ((by rw [hg]; exact Nat.ne_of_lt (blk_lt (bkn BK965)) : gb965 ≠ gb978)); have n9_ := Aside0.mk ((by rw [hg]; exact Nat.ne_of_gt (blk_lt (bkn BK965)) : gb978 ≠ gb965)); clear HO970; clear HO973; clear HO977; clear BK965; clear HB; have HO970 := n0_; have HO973 := n1_; have HO977 := n2_; have BK965 := n3_; have HB := n4_; have BK978 := n5_; have GW978 := n6_; have GE978 := n7_; have NB965_978 := n8_; have NB978_965 := n9_; clear n0_ n1_ n2_ n3_ n4_ n5_ n6_ n7_ n8_ n9_; clear hb hbox hg; have hnb28 := NB978_965.out; have hnc28 := NB965_978.out; have hcz29_0 := bc BK978 0; have hcz29_1 := bc BK978 1; have hfz29_0 := blk_frozen BK978.out 0; have hfz29_1 := blk_frozen BK978.out 1; obtain ⟨Ao30, co30, eo30⟩ := Kd.R_slice HO977.out; subst eo30) | ((with_reducible refine gate_callee (f := 59) rfl ?_); refine gl_ (some 22) Try.func59 #[.agg #[.int .i64 t974, .slice Ao30 t975.length co30]] ?_; (with_reducible refine (impl_BlockCuts.calls k t974 _ _ t975 t979 _ ?side1 ?side2 A10.out).mono ?_); (case side1 => refine (Kd.R_reads' (e := 73) (base := w.heap.size) (ok := fun k_ => (True ∧ some k_ ≠ (.slice Ao23 t968.length co23 : Value).ownBlock)) (n := t975.length) (c := co30) ?_).2.2; exact (by (with_reducible repeat (first | apply Kd.R_alloc | apply Kd.R_drewN | apply Kd.R_drew)); exact (Kd.R_mono (Kd.R_far (p := ⟨gb978, 1, none⟩) (Kd.R_far (p := ⟨gb978, 0, none⟩) (Kd.R_types HO977.out BK978.out (by decide)) (fun _ hk => hk.2) (.int .i64 t974)) (fun _ hk => hk.2) (.slice Ao30 t975.length co30)) (fun _ h_ => h_.1)))); (case side2 => exact (Kd.R_reads' HO977.out).2.1); rintro e w31 ⟨v980, rfl, ho0, hb⟩; refine ⟨_, rfl, ?_⟩; have n0_ := Aside0.mk (Kd.R_below (by (with_reducible repeat (first | apply Kd.R_alloc | apply Kd.R_drewN | apply Kd.R_drew)); exact (Kd.R_mono (Kd.R_far (p := ⟨gb978, 1, none⟩) (Kd.R_far (p := ⟨gb978, 0, none⟩) (Kd.R_types HO970.out BK978.out (by decide)) (fun _ hk => hk.2) (.int .i64 t974)) (fun _ hk => hk.2) (.slice Ao30 t975.length co30)) (fun _ h_ => h_.1))) hb); have n1_ := Aside0.mk (Kd.R_elder' (by (with_reducible repeat (first | apply Kd.R_alloc | apply Kd.R_drewN | apply Kd.R_drew)); exact (Kd.R_mono (Kd.R_far (p := ⟨gb978, 1, none⟩) (Kd.R_far (p := ⟨gb978, 0, none⟩) (Kd.R_types HO973.out BK978.out (by decide)) (fun _ hk => hk.2) (.int .i64 t974)) (fun _ hk => hk.2) (.slice Ao30 t975.length co30)) (fun _ h_ => h_.1))) (Kd.R_base ho0) hb); have n2_ := Aside0.mk (Kd.R_below (by (with_reducible repeat (first | apply Kd.R_alloc | apply Kd.R_drewN | apply Kd.R_drew)); exact (Kd.R_mono (Kd.R_far (p := ⟨gb978, 1, none⟩) (Kd.R_far (p := ⟨gb978, 0, none⟩) (Kd.R_types HO977.out BK978.out (by decide)) (fun _ hk => hk.2) (.int .i64 t974)) (fun _ hk => hk.2) (.slice Ao30 t975.length co30)) (fun _ h_ => h_.1))) hb); have n3_ := Aside0.mk (Kd.R_lower (Kd.R_new' ho0 (Kd.R_lt (by (with_reducible repeat (first | apply Kd.R_alloc | apply Kd.R_drewN | apply Kd.R_drew)); exact (Kd.R_mono (Kd.R_far (p := ⟨gb978, 1, none⟩) (Kd.R_far (p := ⟨gb978, 0, none⟩) (Kd.R_types HO973.out BK978.out (by decide)) (fun _ hk => hk.2) (.int .i64 t974)) (fun _ hk => hk.2) (.slice Ao30 t975.length co30)) (fun _ h_ => h_.1))))) (below_size (bn HB))); have n4_ := Aside0.mk (blk_below (bkn BK965) hb); have n5_ := Aside0.mk (blk_below (g := gb978) (o := .cells #[.int .i64 t974, .slice Ao30 t975.length co30] 34 (0, 0)) (by (with_reducible repeat (first | refine blk_drewN ?_ _ | refine blk_drew ?_ | refine blk_alloc ?_ _)); refine blk_put (cs := #[.int .i64 t974, .slice none 0 0]) ?_ 1 _ rfl; (with_reducible repeat (first | refine blk_drewN ?_ _ | refine blk_drew ?_ | refine blk_alloc ?_ _)); refine blk_put (cs := #[.int .i64 0, .slice none 0 0]) ?_ 0 _ rfl; (with_reducible repeat (first | refine blk_drewN ?_ _ | refine blk_drew ?_ | refine blk_alloc ?_ _)); exact BK978.out) hb); have n6_ := Aside0.mk (below_step (bn HB) hb); clear HO970; clear HO973; clear HO977; clear BK965; clear BK978; clear HB; have HO970 := n0_; have HO973 := n1_; have HO977 := n2_; have HO981 := n3_; have BK965 := n4_; have BK978 := n5_; have HB := n6_; clear n0_ n1_ n2_ n3_ n4_ n5_ n6_; (try clear hb); (try clear ho0); obtain ⟨Ao32, co32, eo32⟩ := Kd.R_slice HO981.out; subst eo32; obtain ⟨Ao33, co33, eo33⟩ := Kd.R_slice HO973.out; subst eo33) | ((with_reducible refine gate_callee (f := 40) rfl ?_); refine gl_ (some 25) Try.func40 #[.slice Ao32 t979.length co32, .slice Ao33 t971.length co33] ?_; (with_reducible refine (laws_eqIntS.calls k _ _ t979 _ _ t971 true _ ?side1 ?side2 ?side3 ?side4 A11.out).mono ?_); (case side1 => repeat (first | exact (Kd.R_reads' HO981.out).2.2 | (with_reducible refine Kd.C_alloc ?_ _) | (with_reducible refine Kd.C_drewN ?_ _) | (with_reducible refine Kd.C_drew ?_))); (case side2 => exact (Kd.R_reads' HO981.out).2.1); (case side3 => repeat (first | exact (Kd.R_reads' HO973.out).2.2 | (with_reducible refine Kd.C_alloc ?_ _) | (with_reducible refine Kd.C_drewN ?_ _) | (with_reducible refine Kd.C_drew ?_))); (case side4 => exact (Kd.R_reads' HO973.out).2.1); rintro e w' ⟨rfl, ⟨nd, rfl⟩⟩; refine ⟨_, rfl, ?_⟩))
    (try (rw [drewN_self w31]; generalize hq_ : World.drewN w31 _ = w31; have n0_ : Aside0 (Kd.R k73 73 w31 w.heap.size (fun k_ => some k_ ≠ (.slice Ao30 t975.length co30 : Value).ownBlock) (.slice Ao23 t968.length co23) t968) := ⟨by rw [← hq_]; exact (by (with_reducible repeat (first | apply Kd.R_alloc | apply Kd.R_drewN | apply Kd.R_drew)); exact Kd.R_mono HO970.out (fun _ hk => hk.2))⟩; have n1_ : Aside0 (Kd.R (Kd.int .i64) 3 w31 w.heap.size (fun k_ => some k_ ≠ (.slice Ao32 t979.length co32 : Value).ownBlock) (.slice Ao33 t971.length co33) t971) := ⟨by rw [← hq_]; exact (by (with_reducible repeat (first | apply Kd.R_alloc | apply Kd.R_drewN | apply Kd.R_drew)); exact Kd.R_mono HO973.out (fun _ hk => hk.2))⟩; have n2_ : Aside0 (Kd.R k73 73 w31 w.heap.size (fun k_ => some k_ ≠ (.slice Ao23 t968.length co23 : Value).ownBlock) (.slice Ao30 t975.length co30) t975) := ⟨by rw [← hq_]; exact (by (with_reducible repeat (first | apply Kd.R_alloc | apply Kd.R_drewN | apply Kd.R_drew)); exact Kd.R_mono HO977.out (fun _ hk => hk.2))⟩; have n3_ : Aside0 (Kd.R (Kd.int .i64) 3 w31 w.heap.size (fun k_ => some k_ ≠ (.slice Ao33 t971.length co33 : Value).ownBlock) (.slice Ao32 t979.length co32) t979) := ⟨by rw [← hq_]; exact (by (with_reducible repeat (first | apply Kd.R_alloc | apply Kd.R_drewN | apply Kd.R_drew)); exact Kd.R_mono HO981.out (fun _ hk => hk.2))⟩; have n4_ : Aside0 (w31.heap[gb965]? = some (.cells #[.int .i64 a0_0, .slice A0_1 l0_1.length c0_1] 29 (0, 0))) := ⟨by rw [← hq_]; exact (bkn BK965)⟩; have n5_ : Aside0 (w31.heap[gb978]? = some (.cells #[.int .i64 t974, .slice Ao30 t975.length co30] 34 (0, 0))) := ⟨by rw [← hq_]; exact (bkn BK978)⟩; have n6_ : Aside0 (Below w.heap.size w w31) := ⟨by rw [← hq_]; exact (bn HB)⟩; clear HO970 HO973 HO977 HO981 BK965 BK978 HB hq_; have HO970 := n0_; have HO973 := n1_; have HO977 := n2_; have HO981 := n3_; have BK965 := n4_; have BK978 := n5_; have HB := n6_; clear n0_ n1_ n2_ n3_ n4_ n5_ n6_))
    have n0_ := Aside0.mk (Kd.R_drew HO970.out)
    have n1_ := Aside0.mk (Kd.R_drew HO973.out)
    have n2_ := Aside0.mk (Kd.R_drew HO977.out)
    have n3_ := Aside0.mk (Kd.R_drew HO981.out)
    have n4_ := Aside0.mk (blk_drew BK965.out)
    have n5_ := Aside0.mk (blk_drew BK978.out)
    have n6_ := Aside0.mk (below_drew1 HB.out)
    clear HO970 HO973 HO977 HO981 BK965 BK978 HB
    have HO970 := n0_
    have HO973 := n1_
    have HO977 := n2_
    have HO981 := n3_
    have BK965 := n4_
    have BK978 := n5_
    have HB := n6_
    clear n0_ n1_ n2_ n3_ n4_ n5_ n6_
    refine start_ (n := 5) (S := fun w' => w'.cell? ⟨gb978, 0, none⟩ = some (.int .i64 t974) ∧ w'.cell? ⟨gb978, 1, none⟩ = some (.slice Ao30 t975.length co30) ∧ w'.cell? ⟨gb965, 0, none⟩ = some (.int .i64 a0_0) ∧ w'.cell? ⟨gb965, 1, none⟩ = some (.slice A0_1 l0_1.length c0_1)) (ds := []) #[false, false, false, false, false] (by kernel_rfl) rfl rfl ⟨(blk_cell BK978.out 0).trans rfl, (blk_cell BK978.out 1).trans rfl, (blk_cell BK965.out 0).trans rfl, (blk_cell BK965.out 1).trans rfl⟩ (fun hHeld => ?_)
    generalize w31.drew = w34 at HO970 HO973 HO977 HO981 BK965 BK978 HB hHeld ⊢
    refine take_ (i := 0) (N := some 27) (v := ?_) (a' := ?_) #[true, false, false, false, false] rfl rfl (by kernel_rfl) (fun _ _ _ h => h) (Or.inl ⟨by rfl, ?_⟩) hHeld ?_ ?_; rotate_left; (rintro w' ⟨s0, s1, s2, s3⟩; go_simp; with_reducible rfl); rotate_left; (simp only [Act.put, List.setIfInBounds_toArray, List.set_cons_zero, List.set_cons_succ, i64_w, i32_w]; rfl)
    refine take_ (i := 1) (N := some 28) (v := ?_) (a' := ?_) #[true, true, false, false, false] rfl rfl (by kernel_rfl) (fun _ _ _ h => h) (Or.inl ⟨by rfl, ?_⟩) hHeld ?_ ?_; rotate_left; (rintro w' ⟨s0, s1, s2, s3⟩; go_simp; with_reducible rfl); rotate_left; (simp only [Act.put, List.setIfInBounds_toArray, List.set_cons_zero, List.set_cons_succ, i64_w, i32_w]; rfl)
    refine one_ (i := 2) (N := some 29) #[true, true, true, false, false] rfl rfl (by kernel_rfl) (by decide) (fun K hK => ?_)
    refine gg_ Try.func32 #[.agg #[.int .i64 a0_0, .slice A0_1 l0_1.length c0_1]] ?_
    with_reducible refine (laws_toNet.calls k a0_0 _ _ l0_1 t983 t984 _ ?side1 ?side2 A13.out).mono ?_
    (case side1 => repeat (first | exact (Kd.C_below HR0_1.out HB.out) | (with_reducible refine Kd.C_alloc ?_ _) | (with_reducible refine Kd.C_drewN ?_ _) | (with_reducible refine Kd.C_drew ?_)))
    (case side2 => exact HC0_1.out)
    rintro e w35 ⟨v985, rfl, ho0, hb⟩
    refine ⟨_, rfl, ?_⟩
    have n0_ := Aside0.mk (Kd.R_elder' (onR HO970) (Kd.R_base ho0) hb)
    have n1_ := Aside0.mk (Kd.R_below (onR HO973) hb)
    have n2_ := Aside0.mk (Kd.R_elder' (onR HO977) (Kd.R_base ho0) hb)
    have n3_ := Aside0.mk (Kd.R_below (onR HO981) hb)
    have n4_ := Aside0.mk (Kd.R_lower (Kd.R_new' (Kd.R_new' ho0 (Kd.R_lt (onR HO970))) (Kd.R_lt (onR HO977))) (below_size (bn HB)))
    have n5_ := Aside0.mk (blk_below (bkn BK965) hb)
    have n6_ := Aside0.mk (blk_below (bkn BK978) hb)
    have n7_ := Aside0.mk (below_step (bn HB) hb)
    clear HO970 HO973 HO977 HO981 BK965 BK978 HB
    have HO970 := n0_
    have HO973 := n1_
    have HO977 := n2_
    have HO981 := n3_
    have HO986 := n4_
    have BK965 := n5_
    have BK978 := n6_
    have HB := n7_
    clear n0_ n1_ n2_ n3_ n4_ n5_ n6_ n7_
    (try clear hb)
    (try clear hb2)
    (try clear hk)
    (try clear hi)
    (try clear ho0)
    obtain ⟨Ao36, co36, eo36⟩ := Kd.R_slice HO986.out
    (first | subst eo36 | (injection eo36 with f1_ f2_ f3_; have f4_ := f1_.symm; have f5_ := f3_.symm; clear f1_ f2_ f3_; subst f4_; subst f5_))
    refine hK.out _ _ ⟨(blk_cell BK978.out 0).trans rfl, (blk_cell BK978.out 1).trans rfl, (blk_cell BK965.out 0).trans rfl, (blk_cell BK965.out 1).trans rfl⟩ (fun hHeld => ?_)
    clear hK K
    refine norm_ (a' := ?_) ?_ ?_
    rotate_left
    ·show Act.put _ (some 29) _ = _
     simp only [Act.put, List.setIfInBounds_toArray, List.set_cons_zero, List.set_cons_succ, i64_w, i32_w]
     rfl
    refine one_ (i := 3) (N := some 30) #[true, true, true, true, false] rfl rfl (by kernel_rfl) (by decide) (fun K hK => ?_)
    refine gg_ Try.func34 #[.agg #[.int .i64 t974, .slice Ao30 t975.length co30], .agg #[.int .i64 t983, .slice Ao36 t984.length co36]] ?_
    with_reducible refine (laws_eqNet.calls k t974 _ _ t975 t983 _ _ t984 true _ ?side1 ?side2 ?side3 ?side4 A14.out).mono ?_
    (case side1 => repeat (first | exact (Kd.R_reads' HO977.out).2.2 | (with_reducible refine Kd.C_alloc ?_ _) | (with_reducible refine Kd.C_drewN ?_ _) | (with_reducible refine Kd.C_drew ?_)))
    (case side2 => exact (Kd.R_reads' HO977.out).2.1)
    (case side3 => repeat (first | exact (Kd.R_reads' HO986.out).2.2 | (with_reducible refine Kd.C_alloc ?_ _) | (with_reducible refine Kd.C_drewN ?_ _) | (with_reducible refine Kd.C_drew ?_)))
    (case side4 => exact (Kd.R_reads' HO986.out).2.1)
    rintro e w37 ⟨rfl, hb⟩
    refine ⟨_, rfl, ?_⟩
    have n0_ := Aside0.mk (Kd.R_below (onR HO970) hb)
    have n1_ := Aside0.mk (Kd.R_below (onR HO973) hb)
    have n2_ := Aside0.mk (Kd.R_below (onR HO977) hb)
    have n3_ := Aside0.mk (Kd.R_below (onR HO981) hb)
    have n4_ := Aside0.mk (Kd.R_below (onR HO986) hb)
    have n5_ := Aside0.mk (blk_below (bkn BK965) hb)
    have n6_ := Aside0.mk (blk_below (bkn BK978) hb)
    have n7_ := Aside0.mk (below_step (bn HB) hb)
    clear HO970 HO973 HO977 HO981 HO986 BK965 BK978 HB
    have HO970 := n0_
    have HO973 := n1_
    have HO977 := n2_
    have HO981 := n3_
    have HO986 := n4_
    have BK965 := n5_
    have BK978 := n6_
    have HB := n7_
    clear n0_ n1_ n2_ n3_ n4_ n5_ n6_ n7_
    (try clear hb)
    (try clear hb2)
    (try clear hk)
    (try clear hi)
    refine hK.out _ _ ⟨(blk_cell BK978.out 0).trans rfl, (blk_cell BK978.out 1).trans rfl, (blk_cell BK965.out 0).trans rfl, (blk_cell BK965.out 1).trans rfl⟩ (fun hHeld => ?_)
    clear hK K
    refine norm_ (a' := ?_) ?_ ?_
    rotate_left
    ·show Act.put _ (some 30) _ = _
     simp only [Act.put, List.setIfInBounds_toArray, List.set_cons_zero, List.set_cons_succ, i64_w, i32_w]
     rfl
    refine pure_ (i := 4) (N := some 31) (v := ?_) (a' := ?_) #[true, true, true, true, true] rfl rfl (by kernel_rfl) (fun _ _ _ h => h) (Or.inl ⟨by rfl, ?_⟩) ?_ ?_; rotate_left; (intro w'; go_simp; with_reducible rfl); rotate_left; (simp only [Act.put, List.setIfInBounds_toArray, List.set_cons_zero, List.set_cons_succ, i64_w, i32_w]; rfl)
    refine done_ (by kernel_rfl) ?_
    have hcz38_0 := bc BK978 0
    have hcz38_1 := bc BK978 1
    have hfz38_0 := blk_frozen BK978.out 0
    have hfz38_1 := blk_frozen BK978.out 1
    go_upto_region 14 with (first | ((with_reducible refine gate_callee (f := 52) rfl ?_); refine gl_ (some 34) Try.func52 #[.agg #[.int .i64 t974, .slice Ao30 t975.length co30], .int .i64 1] ?_; (with_reducible refine (laws_markNet.calls k t974 (fun k_ => some k_ = (.slice Ao30 t975.length co30 : Value).ownBlock) (.slice Ao30 t975.length co30) t975 1 t988 t989 w _ ?side1 ?side2 A16.out).mono ?_); (case side1 => repeat (first | (with_reducible first | exact HB.out | apply below_alloc | apply pw_below_drewN | apply below_drew1 | refine below_set ?_ GE965.out | refine below_set ?_ GE978.out) | exact HB.out)); (case side2 => exact Kd.R_tight rfl HO977.out); rintro e w39 ⟨rfl, hy0, hb, hkp⟩; refine ⟨_, rfl, ?_⟩; have n0_ := Aside0.mk (blk_kept (bkn BK965) hkp (fun hs_ => (fun e_ => (Kd.R_ne HO977.out BK965.out (by decide)) e_) hs_)); have n1_ := Aside0.mk (Kd.R_mono (ok' := fun k_ => some k_ ≠ (.slice Ao30 t975.length co30 : Value).ownBlock ∧ some k_ ≠ (.slice Ao36 t984.length co36 : Value).ownBlock) (Kd.R_keptB (HO970.out) hkp (fun k_ hk_ hs_ => by first | exact hk_.1.2 hs_ | exact hk_.1 hs_ | exact hk_.2 hs_ | exact hk_ hs_)) (fun k_ hk_ => by first | exact ⟨hk_.1.1.2, hk_.1.2⟩ | exact hk_.1 | exact ⟨hk_.1.1, hk_.1.2⟩)); have n2_ := Aside0.mk (Kd.R_mono (ok' := fun k_ => some k_ ≠ (.slice Ao32 t979.length co32 : Value).ownBlock) (Kd.R_keptB ((Kd.R_apart' HO973.out (Kd.R_typed HO977.out) (by decide))) hkp (fun k_ hk_ hs_ => by first | exact hk_.2 hs_ | exact hk_.1 hs_ | exact hk_.2 hs_ | exact hk_ hs_)) (fun k_ hk_ => by first | exact hk_.1.1.2 | exact hk_.1.1)); have n3_ := Aside0.mk (Kd.R_reok rfl hy0 (fun k_ e_ => HO977.out.1 k_ e_)); have n4_ := Aside0.mk (blk_kept (bkn BK978) hkp (fun hs_ => (fun e_ => (Kd.R_ne HO977.out BK978.out (by decide)) e_) hs_)); have n5_ := Aside0.mk (Kd.R_mono (ok' := fun k_ => some k_ ≠ (.slice Ao33 t971.length co33 : Value).ownBlock) (Kd.R_keptB ((Kd.R_apart' HO981.out (Kd.R_typed HO977.out) (by decide))) hkp (fun k_ hk_ hs_ => by first | exact hk_.2 hs_ | exact hk_.1 hs_ | exact hk_.2 hs_ | exact hk_ hs_)) (fun k_ hk_ => by first | exact hk_.1.1.2 | exact hk_.1.1)); have n6_ := Aside0.mk (Kd.R_mono (ok' := fun k_ => some k_ ≠ (.slice Ao23 t968.length co23 : Value).ownBlock ∧ some k_ ≠ (.slice Ao30 t975.length co30 : Value).ownBlock) (Kd.R_keptB (HO986.out) hkp (fun k_ hk_ hs_ => by first | exact hk_.2 hs_ | exact hk_.1 hs_ | exact hk_.2 hs_ | exact hk_ hs_)) (fun k_ hk_ => by first | exact ⟨hk_.1.1.2, hk_.1.2⟩ | exact hk_.1 | exact ⟨hk_.1.1, hk_.1.2⟩)); have n7_ := Aside0.mk (hb); clear BK965; clear HO970; clear HO973; clear HO977; clear BK978; clear HO981; clear HO986; clear HB; have BK965 := n0_; have HO970 := n1_; have HO973 := n2_; have HO977 := n3_; have BK978 := n4_; have HO981 := n5_; have HO986 := n6_; have HB := n7_; clear n0_ n1_ n2_ n3_ n4_ n5_ n6_ n7_; (try clear hb); (try clear hkp); (try clear hy0)))
    (try simp only [Act.put, List.setIfInBounds_toArray, List.set_cons_zero, List.set_cons_succ])
    go_cut [42] (fun v42 wc => ∃ (kq : Nat) (x42_16 : Bool), v42 = .bool x42_16 ∧ Aside0 (laws_FnExactBlockCuts.j0 kq t971 t979 x42_16 a0_0 l0_1 = some r) ∧ Aside0 (kq ≤ k) ∧ Aside0 (Kd.R (Kd.int .i64) 3 wc w.heap.size (fun k_ => some k_ ≠ ((.slice Ao32 t979.length co32) : Value).ownBlock) (.slice Ao33 t971.length co33) t971) ∧ Aside0 (Kd.R (Kd.int .i64) 3 wc w.heap.size (fun k_ => some k_ ≠ ((.slice Ao33 t971.length co33) : Value).ownBlock) (.slice Ao32 t979.length co32) t979) ∧ Aside0 (Kd.R k73 73 wc w.heap.size (fun _ => True) (.slice Ao30 t975.length co30) t989) ∧ Aside0 (wc.heap[gb965]? = some (.cells #[.int .i64 a0_0, (.slice A0_1 l0_1.length c0_1)] 29 (0, 0))) ∧ Aside0 (wc.heap[gb978]? = some (.cells #[.int .i64 t974, (.slice Ao30 t975.length co30)] 34 (0, 0))) ∧ Aside0 (Below w.heap.size w wc))
    case first =>
     have H := HC17.out
     clear HC17
     by_cases c40 : t988 < 0
     ·rw [if_pos c40] at H
      have c40b0 := decide_eq_true c40
      clear c40
      (first | rw [c40b0] | (simp only [i64_w, i32_w]; rw [c40b0]) | skip)
      have H' := Aside0.mk H
      clear H
      go_wp2
      go_meet
      case rel => exact ⟨_, (true), (by first | rfl | (simp; done) | (simp [*]; done)), H', ⟨by first | omega | exact Nat.le_refl _⟩, ⟨onR HO973⟩, ⟨onR HO981⟩, ⟨by (with_reducible repeat (first | apply Kd.R_alloc | apply Kd.R_drewN | apply Kd.R_drew)); exact Kd.R_mono HO977.out (fun _ hk => trivial)⟩, ⟨bkn BK965⟩, ⟨bkn BK978⟩, ⟨bn HB⟩⟩
     ·rw [if_neg c40] at H
      have c40b0 := decide_eq_false c40
      clear c40
      (first | rw [c40b0] | (simp only [i64_w, i32_w]; rw [c40b0]) | skip)
      replace H := Option.bind_eq_some_iff.mp H
      obtain ⟨t990, A410, H⟩ := H
      (try dsimp only at H)
      have A41 := Aside0.mk A410
      clear A410
      have H' := Aside0.mk H
      clear H
      go_wp2_with (first | (go_at_call 40; (with_reducible refine (laws_eqIntS.calls k _ _ t979 _ _ t971 t990 _ ?side1 ?side2 ?side3 ?side4 A41.out).mono ?_); (case side1 => repeat (first | exact (Kd.R_reads' HO981.out).2.2 | (with_reducible refine Kd.C_alloc ?_ _) | (with_reducible refine Kd.C_drewN ?_ _) | (with_reducible refine Kd.C_drew ?_))); (case side2 => exact (Kd.R_reads' HO981.out).2.1); (case side3 => repeat (first | exact (Kd.R_reads' HO973.out).2.2 | (with_reducible refine Kd.C_alloc ?_ _) | (with_reducible refine Kd.C_drewN ?_ _) | (with_reducible refine Kd.C_drew ?_))); (case side4 => exact (Kd.R_reads' HO973.out).2.1); rintro e w' ⟨rfl, ⟨nd, rfl⟩⟩))
      go_meet
      case rel => exact ⟨_, (!t990), (by first | rfl | (simp; done) | (simp [*]; done)), H', ⟨by first | omega | exact Nat.le_refl _⟩, ⟨onR HO973⟩, ⟨onR HO981⟩, ⟨by (with_reducible repeat (first | apply Kd.R_alloc | apply Kd.R_drewN | apply Kd.R_drew)); exact Kd.R_mono HO977.out (fun _ hk => trivial)⟩, ⟨bkn BK965⟩, ⟨bkn BK978⟩, ⟨bn HB⟩⟩
    case rest =>
     clear HC17
     try clear c1
     try clear c2
     try clear p2
     try clear c3
     try clear c3b0
     try clear c4
     try clear c5
     try clear c12
     try clear c14
     try clear c15
     try clear c28
     try clear c30
     try clear c32
     try clear c34
     try clear c40
     try clear c40b0
     try clear hcz19_0
     try clear hcz19_1
     try clear hcz21_0
     try clear hcz21_1
     try clear hcz25_0
     try clear hcz25_1
     try clear hcz29_0
     try clear hcz29_1
     try clear hcz38_0
     try clear hcz38_1
     try clear hcz5_0
     try clear hcz5_1
     try clear hfz19_0
     try clear hfz19_1
     try clear hfz21_0
     try clear hfz21_1
     try clear hfz25_0
     try clear hfz25_1
     try clear hfz29_0
     try clear hfz29_1
     try clear hfz38_0
     try clear hfz38_1
     try clear hfz5_0
     try clear hfz5_1
     obtain ⟨kq, x42_16, rfl, HA, HJ16, HO_4, HO_6, HO_979001, BK965, BK978, HB⟩ := hcut
     have hl979001_16 := (Kd.R_reads' HO_979001.out).1
     rw [hl979001_16] at HO_979001
     (try simp only [hl979001_16])
     (try simp only [hl979001_16] at BK965)
     (try simp only [hl979001_16] at BK978)
     (try simp only [hl979001_16] at HO_4)
     (try simp only [hl979001_16] at HO_6)
     cases kq with
     | zero => exact absurd HA.out (by simp [laws_FnExactBlockCuts.j0])
     | succ kj16 =>
      have H := HA.out
      clear HA
      simp only [laws_FnExactBlockCuts.j0] at H
      by_cases c42 : x42_16 = true
      ·subst c42
       rw [if_pos rfl] at H
       exact absurd (Option.some.inj H) (by rw [hrt.out]; decide)
      ·replace c42 := Bool.eq_false_iff.mpr c42
       subst c42
       rw [if_neg (show ¬ (false = true) by decide)] at H
       replace H := Option.bind_eq_some_iff.mp H
       obtain ⟨⟨t991, t992⟩, A430, H⟩ := H
       (try dsimp only at H)
       have A43 := Aside0.mk A430
       clear A430
       replace H := Option.bind_eq_some_iff.mp H
       obtain ⟨t993, A440, H⟩ := H
       (try dsimp only at H)
       have A44 := Aside0.mk A440
       clear A440
       by_cases c45 : t993 < 0
       ·rw [if_pos c45] at H
        have c45b0 := decide_eq_true c45
        clear c45
        exact absurd (Option.some.inj H) (by rw [hrt.out]; decide)
       ·rw [if_neg c45] at H
        have c45b0 := decide_eq_false c45
        clear c45
        by_cases c46 : t993 = t991
        ·rw [if_pos c46] at H
         have c46b0 : (t993 == t991) = true := beq_iff_eq.mpr c46
         have c46b1 : (t993 != t991) = false := bne_eq_false_iff_eq.mpr c46
         clear c46
         replace H := Option.bind_eq_some_iff.mp H
         obtain ⟨⟨t994, t995⟩, A470, H⟩ := H
         (try dsimp only at H)
         have A47 := Aside0.mk A470
         clear A470
         replace H := Option.bind_eq_some_iff.mp H
         obtain ⟨t998, A480, H⟩ := H
         (try dsimp only at H)
         have A48 := Aside0.mk A480
         clear A480
         replace H := Option.bind_eq_some_iff.mp H
         obtain ⟨t1001, A490, H⟩ := H
         (try dsimp only at H)
         have A49 := Aside0.mk A490
         clear A490
         by_cases c50 : t1001 = true
         ·subst c50
          rw [if_pos rfl] at H
          replace H := Option.bind_eq_some_iff.mp H
          obtain ⟨t1002, A510, H⟩ := H
          (try dsimp only at H)
          have A51 := Aside0.mk A510
          clear A510
          by_cases c52 : t1002 < 0
          ·rw [if_pos c52] at H
           have c52b0 := decide_eq_true c52
           clear c52
           exact absurd (Option.some.inj H) (by rw [hrt.out]; decide)
          ·rw [if_neg c52] at H
           have c52b0 := decide_eq_false c52
           clear c52
           by_cases c53 : t1002 = t991
           ·rw [if_pos c53] at H
            have c53b0 : (t1002 == t991) = true := beq_iff_eq.mpr c53
            have c53b1 : (t1002 != t991) = false := bne_eq_false_iff_eq.mpr c53
            clear c53
            obtain rfl := Option.some.inj H
            go_wp2_with (first | ((with_reducible refine gate_callee (f := 60) rfl ?_); refine gl_ (some 45) Try.func60 #[.slice Ao32 t979.length co32, .int .i64 1] ?_; (with_reducible refine (laws_markIntS.calls kj16 (fun k_ => some k_ = (.slice Ao32 t979.length co32 : Value).ownBlock) (.slice Ao32 t979.length co32) t979 1 t991 t992 w _ ?side1 ?side2 A43.out).mono ?_); (case side1 => repeat (first | (with_reducible first | exact HB.out | apply below_alloc | apply pw_below_drewN | apply below_drew1 | refine below_set ?_ GE965.out | refine below_set ?_ GE978.out) | exact HB.out)); (case side2 => exact Kd.R_tight rfl HO_6.out); rintro e w54 ⟨rfl, hy0, hb, hkp⟩; refine ⟨_, rfl, ?_⟩; have n0_ := Aside0.mk (Kd.R_mono (ok' := fun k_ => some k_ ≠ (.slice Ao32 t979.length co32 : Value).ownBlock) (Kd.R_keptB (HO_4.out) hkp (fun k_ hk_ hs_ => by first | exact hk_ hs_ | exact hk_.1 hs_ | exact hk_.2 hs_ | exact hk_ hs_)) (fun k_ hk_ => hk_.1)); have n1_ := Aside0.mk (Kd.R_reok rfl hy0 (fun k_ e_ => HO_6.out.1 k_ e_)); have n2_ := Aside0.mk (Kd.R_mono (ok' := fun k_ => True) (Kd.R_keptB ((Kd.R_apart' HO_979001.out (Kd.R_typed HO_6.out) (by decide))) hkp (fun k_ hk_ hs_ => by first | exact hk_.2 hs_ | exact hk_.1 hs_ | exact hk_.2 hs_ | exact hk_ hs_)) (fun k_ hk_ => trivial)); have n3_ := Aside0.mk (blk_kept (bkn BK965) hkp (fun hs_ => (fun e_ => (Kd.R_ne HO_6.out BK965.out (by decide)) e_) hs_)); have n4_ := Aside0.mk (blk_kept (bkn BK978) hkp (fun hs_ => (fun e_ => (Kd.R_ne HO_6.out BK978.out (by decide)) e_) hs_)); have n5_ := Aside0.mk (hb); clear HO_4; clear HO_6; clear HO_979001; clear BK965; clear BK978; clear HB; have HO_4 := n0_; have HO_6 := n1_; have HO_979001 := n2_; have BK965 := n3_; have BK978 := n4_; have HB := n5_; clear n0_ n1_ n2_ n3_ n4_ n5_; (try clear hb); (try clear hkp); (try clear hy0)) | ((with_reducible refine gate_callee (f := 61) rfl ?_); refine goesL_ (some 48) rfl rfl Try.func61 (by kernel_rfl) rfl #[.slice Ao32 t992.length co32, .int .i64 1] rfl (by (try simp only [List.map_toArray, List.map_cons, List.map_nil]); first | done | (rw [show t992.length = t979.length from (Kd.R_reads' HO_6.out).1.symm] <;> rfl) | rfl | (simp only [List.length_drop, List.length_take]; rfl)) ?_; (with_reducible refine (laws_heldIntS.calls kj16 _ _ t992 1 t993 _ ?side1 ?side2 A44.out).mono ?_); (case side1 => repeat (first | exact (Kd.R_reads' HO_6.out).2.2 | (with_reducible refine Kd.C_alloc ?_ _) | (with_reducible refine Kd.C_drewN ?_ _) | (with_reducible refine Kd.C_drew ?_))); (case side2 => rw [show t992.length = t979.length from (Kd.R_reads' HO_6.out).1.symm]; exact (Kd.R_reads' HO_6.out).2.1); rintro e w' ⟨rfl, ⟨nd, rfl⟩⟩; refine ⟨_, rfl, ?_⟩; have hnb55 := NB965_978.out; have hnc55 := NB978_965.out; have hcz56_0 := bc BK965 0; have hcz56_1 := bc BK965 1; have hfz56_0 := blk_frozen BK965.out 0; have hfz56_1 := blk_frozen BK965.out 1) | ((with_reducible refine gate_callee (f := 32) rfl ?_); refine gl_ (some 55) Try.func32 #[.agg #[.int .i64 a0_0, .slice A0_1 l0_1.length c0_1]] ?_; (with_reducible refine (laws_toNet.calls kj16 a0_0 _ _ l0_1 t994 t995 _ ?side1 ?side2 A47.out).mono ?_); (case side1 => repeat (first | exact (Kd.C_below HR0_1.out (bn HB)) | (with_reducible refine Kd.C_alloc ?_ _) | (with_reducible refine Kd.C_drewN ?_ _) | (with_reducible refine Kd.C_drew ?_))); (case side2 => exact HC0_1.out); rintro e w57 ⟨v996, rfl, ho0, hb⟩; refine ⟨_, rfl, ?_⟩; have n0_ := Aside0.mk (Kd.R_below (onR HO_4) hb); have n1_ := Aside0.mk (Kd.R_below (onR HO_6) hb); have n2_ := Aside0.mk (Kd.R_elder' (onR HO_979001) (Kd.R_base ho0) hb); have n3_ := Aside0.mk (Kd.R_lower (Kd.R_new' ho0 (Kd.R_lt (onR HO_979001))) (below_size (bn HB))); have n4_ := Aside0.mk (blk_below (bkn BK965) hb); have n5_ := Aside0.mk (blk_below (bkn BK978) hb); have n6_ := Aside0.mk (below_step (bn HB) hb); clear HO_4; clear HO_6; clear HO_979001; clear BK965; clear BK978; clear HB; have HO_4 := n0_; have HO_6 := n1_; have HO_979001 := n2_; have HO997 := n3_; have BK965 := n4_; have BK978 := n5_; have HB := n6_; clear n0_ n1_ n2_ n3_ n4_ n5_ n6_; (try clear hb); (try clear ho0); obtain ⟨Ao58, co58, eo58⟩ := Kd.R_slice HO997.out; subst eo58) | ((with_reducible refine gate_callee (f := 59) rfl ?_); refine gl_ (some 56) Try.func59 #[.agg #[.int .i64 t994, .slice Ao58 t995.length co58]] ?_; (with_reducible refine (impl_BlockCuts.calls kj16 t994 _ _ t995 t998 _ ?side1 ?side2 A48.out).mono ?_); (case side1 => repeat (first | exact (Kd.R_reads' HO997.out).2.2 | (with_reducible refine Kd.C_alloc ?_ _) | (with_reducible refine Kd.C_drewN ?_ _) | (with_reducible refine Kd.C_drew ?_))); (case side2 => exact (Kd.R_reads' HO997.out).2.1); rintro e w59 ⟨v999, rfl, ho0, hb⟩; refine ⟨_, rfl, ?_⟩; have n0_ := Aside0.mk (Kd.R_elder' (onR HO_4) (Kd.R_base ho0) hb); have n1_ := Aside0.mk (Kd.R_elder' (onR HO_6) (Kd.R_base ho0) hb); have n2_ := Aside0.mk (Kd.R_below (onR HO_979001) hb); have n3_ := Aside0.mk (Kd.R_below (onR HO997) hb); have n4_ := Aside0.mk (Kd.R_lower (Kd.R_new' (Kd.R_new' ho0 (Kd.R_lt (onR HO_4))) (Kd.R_lt (onR HO_6))) (below_size (bn HB))); have n5_ := Aside0.mk (blk_below (bkn BK965) hb); have n6_ := Aside0.mk (blk_below (bkn BK978) hb); have n7_ := Aside0.mk (below_step (bn HB) hb); clear HO_4; clear HO_6; clear HO_979001; clear HO997; clear BK965; clear BK978; clear HB; have HO_4 := n0_; have HO_6 := n1_; have HO_979001 := n2_; have HO997 := n3_; have HO1000 := n4_; have BK965 := n5_; have BK978 := n6_; have HB := n7_; clear n0_ n1_ n2_ n3_ n4_ n5_ n6_ n7_; (try clear hb); (try clear ho0); obtain ⟨Ao60, co60, eo60⟩ := Kd.R_slice HO1000.out; subst eo60) | ((with_reducible refine gate_callee (f := 40) rfl ?_); refine gl_ (some 59) Try.func40 #[.slice Ao60 t998.length co60, .slice Ao33 t971.length co33] ?_; (with_reducible refine (laws_eqIntS.calls kj16 _ _ t998 _ _ t971 true _ ?side1 ?side2 ?side3 ?side4 A49.out).mono ?_); (case side1 => repeat (first | exact (Kd.R_reads' HO1000.out).2.2 | (with_reducible refine Kd.C_alloc ?_ _) | (with_reducible refine Kd.C_drewN ?_ _) | (with_reducible refine Kd.C_drew ?_))); (case side2 => exact (Kd.R_reads' HO1000.out).2.1); (case side3 => repeat (first | exact (Kd.R_reads' HO_4.out).2.2 | (with_reducible refine Kd.C_alloc ?_ _) | (with_reducible refine Kd.C_drewN ?_ _) | (with_reducible refine Kd.C_drew ?_))); (case side4 => exact (Kd.R_reads' HO_4.out).2.1); rintro e w' ⟨rfl, ⟨nd, rfl⟩⟩; refine ⟨_, rfl, ?_⟩) | ((with_reducible refine gate_callee (f := 61) rfl ?_); refine goesL_ (some 63) rfl rfl Try.func61 (by kernel_rfl) rfl #[.slice Ao32 t992.length co32, .int .i64 1] rfl (by (try simp only [List.map_toArray, List.map_cons, List.map_nil]); first | done | (rw [show t992.length = t979.length from (Kd.R_reads' HO_6.out).1.symm] <;> rfl) | rfl | (simp only [List.length_drop, List.length_take]; rfl)) ?_; (with_reducible refine (laws_heldIntS.calls kj16 _ _ t992 1 t1002 _ ?side1 ?side2 A51.out).mono ?_); (case side1 => repeat (first | exact (Kd.R_reads' HO_6.out).2.2 | (with_reducible refine Kd.C_alloc ?_ _) | (with_reducible refine Kd.C_drewN ?_ _) | (with_reducible refine Kd.C_drew ?_))); (case side2 => rw [show t992.length = t979.length from (Kd.R_reads' HO_6.out).1.symm]; exact (Kd.R_reads' HO_6.out).2.1); rintro e w' ⟨rfl, ⟨nd, rfl⟩⟩; refine ⟨_, rfl, ?_⟩))
            go_ret
            exact ⟨by first | rfl | (simp [errW_none, errW_some] <;> rfl) | (simp [*, errW_none, errW_some] <;> rfl), bn HB⟩
           ·rw [if_neg c53] at H
            have c53b0 : (t1002 == t991) = false := beq_eq_false_iff_ne.mpr c53
            have c53b1 : (t1002 != t991) = true := bne_iff_ne.mpr c53
            exact absurd (Option.some.inj H) (by rw [hrt.out]; decide)
         ·replace c50 := Bool.eq_false_iff.mpr c50
          subst c50
          rw [if_neg (show ¬ (false = true) by decide)] at H
          exact absurd (Option.some.inj H) (by rw [hrt.out]; decide)
        ·rw [if_neg c46] at H
         have c46b0 : (t993 == t991) = false := beq_eq_false_iff_ne.mpr c46
         have c46b1 : (t993 != t991) = true := bne_iff_ne.mpr c46
         exact absurd (Option.some.inj H) (by rw [hrt.out]; decide)
   ·replace c15 := Bool.eq_false_iff.mpr c15
    subst c15
    rw [if_neg (show ¬ (false = true) by decide)] at H
    exact absurd (Option.some.inj H) (by rw [hrt.out]; decide)
  ·replace c12 := Bool.eq_false_iff.mpr c12
   subst c12
   rw [if_neg (show ¬ (false = true) by decide)] at H
   exact absurd (Option.some.inj H) (by rw [hrt.out]; decide)

/-- what is to be proved of laws_FnExactBlockCuts, without Go -/
def laws_FnExactBlockCuts.Pure : Prop := ∀ (a0_0 : Int) (l0_1 : List (S96)), ((Lit.int .i64 a0_0).wf = true) → (l0_1.length ≤ maxLen ∧ ∀ l0_1_ ∈ l0_1, (((Lit.int .i64 l0_1_.f0).wf = true) ∧ ((Lit.int .i64 l0_1_.f1).wf = true))) → ∃ k, laws_FnExactBlockCuts.f k a0_0 l0_1 = some true

end Go.Proofs.Ytdlnnjgjfngccaa.F
