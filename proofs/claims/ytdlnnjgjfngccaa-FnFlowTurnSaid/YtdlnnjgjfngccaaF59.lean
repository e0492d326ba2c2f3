-- Written by oprint.py (wip/tools) over the kit's print program, for this seat.
import Derived.Test.YtdlnnjgjfngccaaF0
import Derived.Test.YtdlnnjgjfngccaaF11
import Derived.Test.YtdlnnjgjfngccaaF47
import Derived.Test.YtdlnnjgjfngccaaF52
import Derived.Test.YtdlnnjgjfngccaaF58
import Derived.Test.YtdlnnjgjfngccaaXFlowS
namespace Go.Proofs.Ytdlnnjgjfngccaa.F
open Go.RowKit Go.Proofs.YtdlnnjgjfngccaaW.PrintWords Go.Proofs.YtdlnnjgjfngccaaW.PrintLast Go.Proofs.YtdlnnjgjfngccaaW.PrintMore
attribute [local go_sem] max2_int min2_int max_two min_two max_three min_three max_four min_four   -- for this text's walks alone
set_option linter.unusedVariables false
set_option linter.unusedSimpArgs false

/-! ### laws_FnFlowTurn: function 13 -/
def laws_FnFlowTurn.f (k : Nat) (l0 : List Int) : Option (Bool) := if (l0.length : Int) > 1048576 then (some true) else ((spec_DrawFlowCount.f k l0).bind fun bt885 => ((impl_FlowCount.f k bt885.1 bt885.2.1 bt885.2.2.1 bt885.2.2.2).bind fun t892 => ((impl_FlowCut.f k bt885.1 bt885.2.1 bt885.2.2.1 bt885.2.2.2).bind fun bt893 => ((impl_FlowCut.f k bt885.1 bt885.2.1 bt885.2.2.2 bt885.2.2.1).bind fun bt897 => ((spec_FlowCount.f k bt885.1 bt885.2.1 bt885.2.2.1 bt885.2.2.2).bind fun t901 => (if t892 = t901 then ((impl_FlowCount.f k bt885.1 bt885.2.1 bt885.2.2.2 bt885.2.2.1).bind fun t902 => (if t902 = t892 then (if (bt893.2 == bt897.2) = true then ((laws_loTies.f k bt893.1 bt897.1).bind fun t903 => (some t903)) else (some false)) else (some false))) else (some false)))))))
theorem laws_FnFlowTurn.mono : ∀ a0 k, LeO (laws_FnFlowTurn.f k a0) (laws_FnFlowTurn.f (k + 1) a0) := by
 intro a0 k
 unfold laws_FnFlowTurn.f
 have m0_ := @impl_FlowCount.mono
 have m1_ := @impl_FlowCut.mono
 have m2_ := @laws_loTies.mono
 have m3_ := @spec_DrawFlowCount.mono
 have m4_ := @spec_FlowCount.mono
 exact mo_
set_option maxHeartbeats 8000000 in
set_option maxRecDepth 100000 in
theorem laws_FnFlowTurn.calls (k : Nat) (A0 : Option Addr) (c0 : Nat) (l0 : List Int) (r : Bool) (w : World) (hr0 : Kd.C (Kd.int .u8) w A0 l0.length l0) (hc0 : l0.length ≤ c0) (hrt : Aside0 (r = true)) (h : laws_FnFlowTurn.f k l0 = some r) :
  Calls Try.prog 13 #[.slice A0 l0.length c0] w fun e w' => e = .returned (.bool r) ∧ Below w.heap.size w w' := by
 have hu34 := Try.underlying34
 have HR0 := am hr0
 have HC0 := am hc0
 clear hr0 hc0
 have HB := am (Below.refl w.heap.size w)
 have H : (if (l0.length : Int) > 1048576 then (some true) else ((spec_DrawFlowCount.f k l0).bind fun bt885 => ((impl_FlowCount.f k bt885.1 bt885.2.1 bt885.2.2.1 bt885.2.2.2).bind fun t892 => ((impl_FlowCut.f k bt885.1 bt885.2.1 bt885.2.2.1 bt885.2.2.2).bind fun bt893 => ((impl_FlowCut.f k bt885.1 bt885.2.1 bt885.2.2.2 bt885.2.2.1).bind fun bt897 => ((spec_FlowCount.f k bt885.1 bt885.2.1 bt885.2.2.1 bt885.2.2.2).bind fun t901 => (if t892 = t901 then ((impl_FlowCount.f k bt885.1 bt885.2.1 bt885.2.2.2 bt885.2.2.1).bind fun t902 => (if t902 = t892 then (if (bt893.2 == bt897.2) = true then ((laws_loTies.f k bt893.1 bt897.1).bind fun t903 => (some t903)) else (some false)) else (some false))) else (some false)))))))) = some r := h
 clear h
 by_cases c2 : (l0.length : Int) > 1048576
 ·rw [if_pos c2] at H
  have c2b0 := decide_eq_true c2
  have c2b1 : decide (1048576 < l0.length) = true := decide_eq_true (by omega)
  clear c2
  obtain rfl := Option.some.inj H
  go_enter Try.func13, Try.ntmps13
  go_wp2
  go_ret
  exact ⟨by first | rfl | (simp [errW_none, errW_some] <;> rfl) | (simp [*, errW_none, errW_some] <;> rfl), bn HB⟩
 ·rw [if_neg c2] at H
  have c2b0 := decide_eq_false c2
  have c2b1 : decide (1048576 < l0.length) = false := decide_eq_false (by omega)
  clear c2
  replace H := Option.bind_eq_some_iff.mp H
  obtain ⟨⟨t885, t886, t889, t890⟩, A30, H⟩ := H
  (try dsimp only at H)
  have A3 := am A30
  clear A30
  replace H := Option.bind_eq_some_iff.mp H
  obtain ⟨t892, A40, H⟩ := H
  (try dsimp only at H)
  have A4 := am A40
  clear A40
  replace H := Option.bind_eq_some_iff.mp H
  obtain ⟨⟨t893, t896⟩, A50, H⟩ := H
  (try dsimp only at H)
  have A5 := am A50
  clear A50
  replace H := Option.bind_eq_some_iff.mp H
  obtain ⟨⟨t897, t900⟩, A60, H⟩ := H
  (try dsimp only at H)
  have A6 := am A60
  clear A60
  replace H := Option.bind_eq_some_iff.mp H
  obtain ⟨t901, A70, H⟩ := H
  (try dsimp only at H)
  have A7 := am A70
  clear A70
  by_cases c8 : t892 = t901
  ·rw [if_pos c8] at H
   have c8b0 : (t892 == t901) = true := beq_iff_eq.mpr c8
   have c8b1 : (t892 != t901) = false := bne_eq_false_iff_eq.mpr c8
   clear c8
   replace H := Option.bind_eq_some_iff.mp H
   obtain ⟨t902, A90, H⟩ := H
   (try dsimp only at H)
   have A9 := am A90
   clear A90
   by_cases c10 : t902 = t892
   ·rw [if_pos c10] at H
    have c10b0 : (t902 == t892) = true := beq_iff_eq.mpr c10
    have c10b1 : (t902 != t892) = false := bne_eq_false_iff_eq.mpr c10
    clear c10
    by_cases c11 : (t896 == t900) = true
    ·rw [if_pos c11] at H
     have c11b0 : (t896 == t900) = true := c11
     (try (have c11b1 : decide (t896 = t900) = true := by simpa using c11))
     (try (have c11b2 : (t896 == t900) = true := by simpa using c11))
     clear c11
     replace H := Option.bind_eq_some_iff.mp H
     obtain ⟨t903, A120, H⟩ := H
     (try dsimp only at H)
     have A12 := am A120
     clear A120
     obtain rfl := Option.some.inj H
     go_enter Try.func13, Try.ntmps13
     go_wp2_with (first | ((with_reducible refine gate_callee (f := 48) rfl ?_); refine gl_ (some 16) Try.func48 #[.slice A0 l0.length c0] ?_; (with_reducible refine (spec_DrawFlowCount.calls k _ _ l0 t885 t886 t889 t890 _ ?side1 ?side2 A3.out).mono ?_); (case side1 => repeat (first | exact HR0.out | (with_reducible refine Kd.C_alloc ?_ _) | (with_reducible refine Kd.C_drewN ?_ _) | (with_reducible refine Kd.C_drew ?_))); (case side2 => exact HC0.out); rintro e w13 ⟨v887, rfl, ho0, hb⟩; refine ⟨_, rfl, ?_⟩; have HO888 := am (Kd.R_lower ho0 (below_size (bn HB))); replace HB := bs HB hb; (try clear hb); (try clear ho0)) | ((with_reducible refine gate_dst (N := 3) rfl ?_); refine be_ 3 #[.int .i64 0, .slice none 0 0] 34 ?_; intro gb891 hg w14 hbox hb; replace HO888 := am (Kd.R_below (onR HO888) hb); have BK891 := am hbox; have GW891 := am (ge_ hg HB); have GE891 := am (ge_ hg HB); replace HB := bs HB hb; clear hb hbox hg; obtain ⟨hcz15_0, hcz15_1, hfz15_0, hfz15_1⟩ := c2 BK891; obtain ⟨Ao16, co16, eo16⟩ := Kd.R_slice HO888.out; subst eo16) | ((with_reducible refine gate_callee (f := 33) rfl ?_); refine gl_ (some 23) Try.func33 #[.agg #[.int .i64 t885, .slice Ao16 t886.length co16], .int .i64 t889, .int .i64 t890] ?_; (with_reducible refine (impl_FlowCount.calls k t885 _ _ t886 t889 t890 t892 _ ?side1 ?side2 A4.out).mono ?_); (case side1 => refine (Kd.R_reads' (e := 73) (base := w.heap.size) (ok := fun k_ => True) (n := t886.length) (c := co16) ?_).2.2; exact (by (with_reducible repeat (first | apply Kd.R_alloc | apply Kd.R_drewN | apply Kd.R_drew)); exact (Kd.R_mono (Kd.R_far (p := ⟨gb891, 1, none⟩) (Kd.R_far (p := ⟨gb891, 0, none⟩) (Kd.R_types HO888.out BK891.out (by decide)) (fun _ hk => hk.2) (.int .i64 t885)) (fun _ hk => hk.2) (.slice Ao16 t886.length co16)) (fun _ h_ => h_.1)))); (case side2 => exact (Kd.R_reads' HO888.out).2.1); rintro e w17 ⟨rfl, hb⟩; refine ⟨_, rfl, ?_⟩; replace HO888 := am (Kd.R_below (by (with_reducible repeat (first | apply Kd.R_alloc | apply Kd.R_drewN | apply Kd.R_drew)); exact (Kd.R_mono (Kd.R_far (p := ⟨gb891, 1, none⟩) (Kd.R_far (p := ⟨gb891, 0, none⟩) (Kd.R_types HO888.out BK891.out (by decide)) (fun _ hk => hk.2) (.int .i64 t885)) (fun _ hk => hk.2) (.slice Ao16 t886.length co16)) (fun _ h_ => h_.1))) hb); replace BK891 := am (blk_below (g := gb891) (o := .cells #[.int .i64 t885, .slice Ao16 t886.length co16] 34 (0, 0)) (by (with_reducible repeat (first | refine blk_drewN ?_ _ | refine blk_drew ?_ | refine blk_alloc ?_ _)); refine blk_put (cs := #[.int .i64 t885, .slice none 0 0]) ?_ 1 _ rfl; (with_reducible repeat (first | refine blk_drewN ?_ _ | refine blk_drew ?_ | refine blk_alloc ?_ _)); refine blk_put (cs := #[.int .i64 0, .slice none 0 0]) ?_ 0 _ rfl; (with_reducible repeat (first | refine blk_drewN ?_ _ | refine blk_drew ?_ | refine blk_alloc ?_ _)); exact BK891.out) hb); replace HB := bs HB hb; (try clear hb); obtain ⟨hcz18_0, hcz18_1, hfz18_0, hfz18_1⟩ := c2 BK891) | ((with_reducible refine gate_callee (f := 51) rfl ?_); refine gl_ (some 28) Try.func51 #[.agg #[.int .i64 t885, .slice Ao16 t886.length co16], .int .i64 t889, .int .i64 t890] ?_; (with_reducible refine (impl_FlowCut.calls k t885 (fun k_ => some k_ = (.slice Ao16 t886.length co16 : Value).ownBlock) _ _ t886 t889 t890 t893 t896 _ ?side1 A5.out).mono ?_); (case side1 => exact Kd.R_V (Kd.R_tight rfl (Kd.R_types (HO888.out) BK891.out (by decide)))); rintro e w19 ⟨v894, rfl, ho0, hb⟩; refine ⟨_, rfl, ?_⟩; have HO895 := am (Kd.R_lower (Kd.R_new' (Kd.R_mono (ok' := fun k_ => True) ho0 (fun _ hk_ => trivial)) (Kd.R_lt (onR HO888))) (below_size (bn HB))); replace HO888 := am (Kd.R_elder' (onR HO888) (Kd.R_base ho0) hb); replace BK891 := bb BK891 hb; replace HB := bs HB hb; (try clear hb); (try clear ho0); obtain ⟨hcz20_0, hcz20_1, hfz20_0, hfz20_1⟩ := c2 BK891) | ((with_reducible refine gate_callee (f := 51) rfl ?_); refine gl_ (some 35) Try.func51 #[.agg #[.int .i64 t885, .slice Ao16 t886.length co16], .int .i64 t890, .int .i64 t889] ?_; (with_reducible refine (impl_FlowCut.calls k t885 (fun k_ => some k_ = (.slice Ao16 t886.length co16 : Value).ownBlock) _ _ t886 t890 t889 t897 t900 _ ?side1 A6.out).mono ?_); (case side1 => exact Kd.R_V (Kd.R_tight rfl (Kd.R_types (HO888.out) BK891.out (by decide)))); rintro e w21 ⟨v898, rfl, ho0, hb⟩; refine ⟨_, rfl, ?_⟩; have HO899 := am (Kd.R_lower (Kd.R_new' (Kd.R_new' (Kd.R_mono (ok' := fun k_ => True) ho0 (fun _ hk_ => trivial)) (Kd.R_lt (onR HO888))) (Kd.R_lt (onR HO895))) (below_size (bn HB))); replace HO888 := am (Kd.R_elder' (onR HO888) (Kd.R_base ho0) hb); replace HO895 := am (Kd.R_elder' (onR HO895) (Kd.R_base ho0) hb); replace BK891 := bb BK891 hb; replace HB := bs HB hb; (try clear hb); (try clear ho0); obtain ⟨hcz22_0, hcz22_1, hfz22_0, hfz22_1⟩ := c2 BK891) | ((with_reducible refine gate_callee (f := 31) rfl ?_); refine gl_ (some 42) Try.func31 #[.agg #[.int .i64 t885, .slice Ao16 t886.length co16], .int .i64 t889, .int .i64 t890] ?_; (with_reducible refine (spec_FlowCount.calls k t885 _ _ t886 t889 t890 t901 _ ?side1 ?side2 A7.out).mono ?_); (case side1 => exact (Kd.R_reads' (onR HO888)).2.2); (case side2 => exact (Kd.R_reads' HO888.out).2.1); rintro e w23 ⟨rfl, hb⟩; refine ⟨_, rfl, ?_⟩; replace HO888 := am (Kd.R_below (onR HO888) hb); replace HO895 := am (Kd.R_below (onR HO895) hb); replace HO899 := am (Kd.R_below (onR HO899) hb); replace BK891 := bb BK891 hb; replace HB := bs HB hb; (try clear hb); obtain ⟨hcz24_0, hcz24_1, hfz24_0, hfz24_1⟩ := c2 BK891) | (go_at_call 33; (with_reducible refine (impl_FlowCount.calls k t885 _ _ t886 t890 t889 t902 _ ?side1 ?side2 A9.out).mono ?_); (case side1 => exact (Kd.R_reads' (onR HO888)).2.2); (case side2 => exact (Kd.R_reads' HO888.out).2.1); rintro e w25 ⟨rfl, hb⟩; replace HO888 := am (Kd.R_below (onR HO888) hb); replace HO895 := am (Kd.R_below (onR HO895) hb); replace HO899 := am (Kd.R_below (onR HO899) hb); replace BK891 := bb BK891 hb; replace HB := bs HB hb; (try clear hb); obtain ⟨Ao26, co26, eo26⟩ := Kd.R_slice HO895.out; subst eo26; obtain ⟨Ao27, co27, eo27⟩ := Kd.R_slice HO899.out; subst eo27) | (go_at_call 57; (with_reducible refine (laws_loTies.calls k _ _ t893 _ _ t897 t903 _ ?side1 ?side2 ?side3 ?side4 A12.out).mono ?_); (case side1 => exact (Kd.R_reads' (onR HO895)).2.2); (case side2 => exact (Kd.R_reads' HO895.out).2.1); (case side3 => exact (Kd.R_reads' (onR HO899)).2.2); (case side4 => exact (Kd.R_reads' HO899.out).2.1); rintro e w' ⟨rfl, ⟨nd, rfl⟩⟩))
     go_ret
     exact ⟨by first | rfl | (simp [errW_none, errW_some] <;> rfl) | (simp [*, errW_none, errW_some] <;> rfl), bn HB⟩
    ·rw [if_neg c11] at H
     have c11b0 : (t896 == t900) = false := by simpa using c11
     (try (have c11b1 : decide (t896 = t900) = false := by simpa using c11))
     (try (have c11b2 : (t896 == t900) = false := by simpa using c11))
     (try (have c11b3 : ¬ (t896 = t900) := by simpa using c11))
     clear c11
     exact absurd (Option.some.inj H) (by rw [hrt.out]; decide)
   ·rw [if_neg c10] at H
    have c10b0 : (t902 == t892) = false := beq_eq_false_iff_ne.mpr c10
    have c10b1 : (t902 != t892) = true := bne_iff_ne.mpr c10
    exact absurd (Option.some.inj H) (by rw [hrt.out]; decide)
  ·rw [if_neg c8] at H
   have c8b0 : (t892 == t901) = false := beq_eq_false_iff_ne.mpr c8
   have c8b1 : (t892 != t901) = true := bne_iff_ne.mpr c8
   exact absurd (Option.some.inj H) (by rw [hrt.out]; decide)

/-- what is to be proved of laws_FnFlowTurn, without Go -/
def laws_FnFlowTurn.Pure : Prop := ∀ (l0 : List Int), (l0.length ≤ maxLen ∧ ∀ l0_ ∈ l0, ((Lit.int .u8 l0_).wf = true)) → ∃ k, laws_FnFlowTurn.f k l0 = some true

end Go.Proofs.Ytdlnnjgjfngccaa.F
