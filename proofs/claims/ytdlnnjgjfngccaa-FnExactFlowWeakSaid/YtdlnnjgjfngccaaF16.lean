-- Written by oprint.py (wip/tools) over the kit's print program, for this seat.
import Derived.Test.YtdlnnjgjfngccaaF0
import Derived.Test.YtdlnnjgjfngccaaF15
import Derived.Test.YtdlnnjgjfngccaaF7
namespace Go.Proofs.Ytdlnnjgjfngccaa.F
open Go.RowKit Go.Proofs.YtdlnnjgjfngccaaW.PrintWords Go.Proofs.YtdlnnjgjfngccaaW.PrintLast Go.Proofs.YtdlnnjgjfngccaaW.PrintMore
attribute [local go_sem] max2_int min2_int max_two min_two max_three min_three max_four min_four   -- for this text's walks alone
set_option linter.unusedVariables false
set_option linter.unusedSimpArgs false

/-! ### laws_FnExactFlowWeak: function 5 -/
def laws_FnExactFlowWeak.f (k : Nat) (a0_0 : Int) (l0_1 : List (S96)) : Option (Bool) := (laws_szNet.f a0_0 l0_1 1048576).bind fun t230 => (if t230 < 0 then (some true) else ((laws_toNet.f k a0_0 l0_1).bind fun bt231 => ((spec_FlowWeak.f k bt231.1 bt231.2).bind fun t235 => ((laws_toNet.f k a0_0 l0_1).bind fun bt236 => ((impl_FlowWeak.f k bt236.1 bt236.2).bind fun t241 => (if t241 = t235 then ((laws_toNet.f k a0_0 l0_1).bind fun bt242 => ((laws_eqNet.f k bt236.1 bt236.2 bt242.1 bt242.2).bind fun t246 => (if t246 = true then (some true) else (some false)))) else (some false)))))))
theorem laws_FnExactFlowWeak.mono : ∀ a0 a1 k, LeO (laws_FnExactFlowWeak.f k a0 a1) (laws_FnExactFlowWeak.f (k + 1) a0 a1) := by
 intro a0 a1 k
 unfold laws_FnExactFlowWeak.f
 have m0_ := @impl_FlowWeak.mono
 have m1_ := @laws_eqNet.mono
 have m2_ := @laws_toNet.mono
 have m3_ := @spec_FlowWeak.mono
 exact mo_
set_option maxHeartbeats 8000000 in
set_option maxRecDepth 100000 in
theorem laws_FnExactFlowWeak.calls (k : Nat) (a0_0 : Int) (A0_1 : Option Addr) (c0_1 : Nat) (l0_1 : List (S96)) (r : Bool) (w : World) (hr0_1 : Kd.C k96 w A0_1 l0_1.length l0_1) (hc0_1 : l0_1.length ≤ c0_1) (hrt : Aside0 (r = true)) (h : laws_FnExactFlowWeak.f k a0_0 l0_1 = some r) :
  Calls Try.prog 5 #[.agg #[.int .i64 a0_0, .slice A0_1 l0_1.length c0_1]] w fun e w' => e = .returned (.bool r) ∧ Below w.heap.size w w' := by
 have hu29 := Try.underlying29
 have hu34 := Try.underlying34
 have HR0_1 := am hr0_1
 have HC0_1 := am hc0_1
 clear hr0_1 hc0_1
 have HB := am (Below.refl w.heap.size w)
 have H : ((laws_szNet.f a0_0 l0_1 1048576).bind fun t230 => (if t230 < 0 then (some true) else ((laws_toNet.f k a0_0 l0_1).bind fun bt231 => ((spec_FlowWeak.f k bt231.1 bt231.2).bind fun t235 => ((laws_toNet.f k a0_0 l0_1).bind fun bt236 => ((impl_FlowWeak.f k bt236.1 bt236.2).bind fun t241 => (if t241 = t235 then ((laws_toNet.f k a0_0 l0_1).bind fun bt242 => ((laws_eqNet.f k bt236.1 bt236.2 bt242.1 bt242.2).bind fun t246 => (if t246 = true then (some true) else (some false)))) else (some false)))))))) = some r := h
 clear h
 replace H := Option.bind_eq_some_iff.mp H
 obtain ⟨t230, A20, H⟩ := H
 (try dsimp only at H)
 have A2 := am A20
 clear A20
 by_cases c3 : t230 < 0
 ·rw [if_pos c3] at H
  have c3b0 := decide_eq_true c3
  clear c3
  obtain rfl := Option.some.inj H
  go_enter Try.func5, Try.ntmps5
  go_wp2_with (first | ((with_reducible refine gate_dst (N := 1) rfl ?_); refine be_ 1 #[.int .i64 a0_0, .slice A0_1 l0_1.length c0_1] 29 ?_; intro gb229 hg w4 hbox hb; have BK229 := am hbox; have GW229 := am (ge_ hg HB); have GE229 := am (ge_ hg HB); replace HB := bs HB hb; clear hb hbox hg; obtain ⟨hcz5_0, hcz5_1, hfz5_0, hfz5_1⟩ := c2 BK229) | ((with_reducible refine gate_callee (f := 30) rfl ?_); refine gl_ (some 9) Try.func30 #[.agg #[.int .i64 a0_0, .slice A0_1 l0_1.length c0_1], .int .i64 1048576] ?_; (with_reducible refine (laws_szNet.calls a0_0 _ _ l0_1 1048576 t230 _ ?side1 ?side2 A2.out).mono ?_); (case side1 => exact cb HR0_1 HB); (case side2 => exact HC0_1.out); rintro e w6 ⟨rfl, hb⟩; refine ⟨_, rfl, ?_⟩; replace BK229 := bb BK229 hb; replace HB := bs HB hb; (try clear hb); (try clear hi)))
  go_ret
  exact ⟨by first | rfl | (simp [errW_none, errW_some] <;> rfl) | (simp [*, errW_none, errW_some] <;> rfl), bn HB⟩
 ·rw [if_neg c3] at H
  have c3b0 := decide_eq_false c3
  clear c3
  replace H := Option.bind_eq_some_iff.mp H
  obtain ⟨⟨t231, t232⟩, A70, H⟩ := H
  (try dsimp only at H)
  have A7 := am A70
  clear A70
  replace H := Option.bind_eq_some_iff.mp H
  obtain ⟨t235, A80, H⟩ := H
  (try dsimp only at H)
  have A8 := am A80
  clear A80
  replace H := Option.bind_eq_some_iff.mp H
  obtain ⟨⟨t236, t237⟩, A90, H⟩ := H
  (try dsimp only at H)
  have A9 := am A90
  clear A90
  replace H := Option.bind_eq_some_iff.mp H
  obtain ⟨t241, A100, H⟩ := H
  (try dsimp only at H)
  have A10 := am A100
  clear A100
  by_cases c11 : t241 = t235
  ·rw [if_pos c11] at H
   have c11b0 : (t241 == t235) = true := beq_iff_eq.mpr c11
   have c11b1 : (t241 != t235) = false := bne_eq_false_iff_eq.mpr c11
   clear c11
   replace H := Option.bind_eq_some_iff.mp H
   obtain ⟨⟨t242, t243⟩, A120, H⟩ := H
   (try dsimp only at H)
   have A12 := am A120
   clear A120
   replace H := Option.bind_eq_some_iff.mp H
   obtain ⟨t246, A130, H⟩ := H
   (try dsimp only at H)
   have A13 := am A130
   clear A130
   by_cases c14 : t246 = true
   ·subst c14
    rw [if_pos rfl] at H
    obtain rfl := Option.some.inj H
    go_enter Try.func5, Try.ntmps5
    try go_wp2_with (first | ((with_reducible refine gate_dst (N := 1) rfl ?_); refine be_ 1 #[.int .i64 a0_0, .slice A0_1 l0_1.length c0_1] 29 ?_; intro gb229 hg w15 hbox hb; have BK229 := am hbox; have GW229 := am (ge_ hg HB); have GE229 := am (ge_ hg HB); replace HB := bs HB hb; clear hb hbox hg; obtain ⟨hcz16_0, hcz16_1, hfz16_0, hfz16_1⟩ := c2 BK229) | ((with_reducible refine gate_callee (f := 30) rfl ?_); refine gl_ (some 9) Try.func30 #[.agg #[.int .i64 a0_0, .slice A0_1 l0_1.length c0_1], .int .i64 1048576] ?_; (with_reducible refine (laws_szNet.calls a0_0 _ _ l0_1 1048576 t230 _ ?side1 ?side2 A2.out).mono ?_); (case side1 => exact cb HR0_1 HB); (case side2 => exact HC0_1.out); rintro e w17 ⟨rfl, hb⟩; refine ⟨_, rfl, ?_⟩; replace BK229 := bb BK229 hb; replace HB := bs HB hb; (try clear hb); obtain ⟨hcz18_0, hcz18_1, hfz18_0, hfz18_1⟩ := c2 BK229) | ((with_reducible refine gate_callee (f := 32) rfl ?_); refine gl_ (some 13) Try.func32 #[.agg #[.int .i64 a0_0, .slice A0_1 l0_1.length c0_1]] ?_; (with_reducible refine (laws_toNet.calls k a0_0 _ _ l0_1 t231 t232 _ ?side1 ?side2 A7.out).mono ?_); (case side1 => exact cb HR0_1 HB); (case side2 => exact HC0_1.out); rintro e w19 ⟨v233, rfl, ho0, hb⟩; refine ⟨_, rfl, ?_⟩; have HO234 := am (Kd.R_lower ho0 (below_size (bn HB))); replace BK229 := bb BK229 hb; replace HB := bs HB hb; (try clear hb); (try clear ho0); obtain ⟨Ao20, co20, eo20⟩ := Kd.R_slice HO234.out; subst eo20) | ((with_reducible refine gate_callee (f := 35) rfl ?_); refine gl_ (some 14) Try.func35 #[.agg #[.int .i64 t231, .slice Ao20 t232.length co20]] ?_; (with_reducible refine (spec_FlowWeak.calls k t231 _ _ t232 t235 _ ?side1 ?side2 A8.out).mono ?_); (case side1 => exact (Kd.R_reads' (onR HO234)).2.2); (case side2 => exact (Kd.R_reads' HO234.out).2.1); rintro e w21 ⟨rfl, hb⟩; refine ⟨_, rfl, ?_⟩; replace HO234 := am (Kd.R_below (onR HO234) hb); replace BK229 := bb BK229 hb; replace HB := bs HB hb; (try clear hb); obtain ⟨hcz22_0, hcz22_1, hfz22_0, hfz22_1⟩ := c2 BK229) | ((with_reducible refine gate_callee (f := 32) rfl ?_); refine gl_ (some 16) Try.func32 #[.agg #[.int .i64 a0_0, .slice A0_1 l0_1.length c0_1]] ?_; (with_reducible refine (laws_toNet.calls k a0_0 _ _ l0_1 t236 t237 _ ?side1 ?side2 A9.out).mono ?_); (case side1 => exact cb HR0_1 HB); (case side2 => exact HC0_1.out); rintro e w23 ⟨v238, rfl, ho0, hb⟩; refine ⟨_, rfl, ?_⟩; have HO239 := am (Kd.R_lower (Kd.R_new' ho0 (Kd.R_lt (onR HO234))) (below_size (bn HB))); replace HO234 := am (Kd.R_elder' (onR HO234) (Kd.R_base ho0) hb); replace BK229 := bb BK229 hb; replace HB := bs HB hb; (try clear hb); (try clear ho0)) | ((with_reducible refine gate_dst (N := 5) rfl ?_); refine be_ 5 #[.int .i64 0, .slice none 0 0] 34 ?_; intro gb240 hg w24 hbox hb; replace HO234 := am (Kd.R_below (onR HO234) hb); replace HO239 := am (Kd.R_below (onR HO239) hb); have BK240 := am hbox; have GW240 := am (ge_ hg HB); have GE240 := am (ge_ hg HB); replace HB := bs HB hb; obtain ⟨NB229_240, NB240_229⟩ := nb_ hg BK229; replace BK229 := bb BK229 hb; clear hb hbox hg; obtain ⟨hnb25, hnc25⟩ := n2 NB240_229 NB229_240; obtain ⟨hcz26_0, hcz26_1, hfz26_0, hfz26_1⟩ := c2 BK240; obtain ⟨Ao27, co27, eo27⟩ := Kd.R_slice HO239.out; subst eo27) | ((with_reducible refine gate_callee (f := 36) rfl ?_); refine gl_ (some 18) Try.func36 #[.agg #[.int .i64 t236, .slice Ao27 t237.length co27]] ?_; (with_reducible refine (impl_FlowWeak.calls k t236 _ _ t237 t241 _ ?side1 ?side2 A10.out).mono ?_); (case side1 => refine (Kd.R_reads' (e := 73) (base := w.heap.size) (ok := fun k_ => (True ∧ some k_ ≠ (.slice Ao20 t232.length co20 : Value).ownBlock)) (n := t237.length) (c := co27) ?_).2.2; exact (by (with_reducible repeat (first | apply Kd.R_alloc | apply Kd.R_drewN | apply Kd.R_drew)); exact (Kd.R_mono (Kd.R_far (p := ⟨gb240, 1, none⟩) (Kd.R_far (p := ⟨gb240, 0, none⟩) (Kd.R_types HO239.out BK240.out (by decide)) (fun _ hk => hk.2) (.int .i64 t236)) (fun _ hk => hk.2) (.slice Ao27 t237.length co27)) (fun _ h_ => h_.1)))); (case side2 => exact (Kd.R_reads' HO239.out).2.1); rintro e w28 ⟨rfl, hb⟩; refine ⟨_, rfl, ?_⟩; replace HO234 := am (Kd.R_below (by (with_reducible repeat (first | apply Kd.R_alloc | apply Kd.R_drewN | apply Kd.R_drew)); exact (Kd.R_mono (Kd.R_far (p := ⟨gb240, 1, none⟩) (Kd.R_far (p := ⟨gb240, 0, none⟩) (Kd.R_types HO234.out BK240.out (by decide)) (fun _ hk => hk.2) (.int .i64 t236)) (fun _ hk => hk.2) (.slice Ao27 t237.length co27)) (fun _ h_ => h_.1))) hb); replace HO239 := am (Kd.R_below (by (with_reducible repeat (first | apply Kd.R_alloc | apply Kd.R_drewN | apply Kd.R_drew)); exact (Kd.R_mono (Kd.R_far (p := ⟨gb240, 1, none⟩) (Kd.R_far (p := ⟨gb240, 0, none⟩) (Kd.R_types HO239.out BK240.out (by decide)) (fun _ hk => hk.2) (.int .i64 t236)) (fun _ hk => hk.2) (.slice Ao27 t237.length co27)) (fun _ h_ => h_.1))) hb); replace BK229 := bb BK229 hb; replace BK240 := am (blk_below (g := gb240) (o := .cells #[.int .i64 t236, .slice Ao27 t237.length co27] 34 (0, 0)) (by (with_reducible repeat (first | refine blk_drewN ?_ _ | refine blk_drew ?_ | refine blk_alloc ?_ _)); refine blk_put (cs := #[.int .i64 t236, .slice none 0 0]) ?_ 1 _ rfl; (with_reducible repeat (first | refine blk_drewN ?_ _ | refine blk_drew ?_ | refine blk_alloc ?_ _)); refine blk_put (cs := #[.int .i64 0, .slice none 0 0]) ?_ 0 _ rfl; (with_reducible repeat (first | refine blk_drewN ?_ _ | refine blk_drew ?_ | refine blk_alloc ?_ _)); exact BK240.out) hb); replace HB := bs HB hb; (try clear hb); (try clear hi)))
    replace HO234 := am (Kd.R_drew HO234.out)
    replace HO239 := am (Kd.R_drew HO239.out)
    replace BK229 := am (blk_drew BK229.out)
    replace BK240 := am (blk_drew BK240.out)
    replace HB := am (below_drew1 HB.out)
    refine start_ (n := 5) (S := fun w' => w'.cell? ⟨gb240, 0, none⟩ = some (.int .i64 t236) ∧ w'.cell? ⟨gb240, 1, none⟩ = some (.slice Ao27 t237.length co27) ∧ w'.cell? ⟨gb229, 0, none⟩ = some (.int .i64 a0_0) ∧ w'.cell? ⟨gb229, 1, none⟩ = some (.slice A0_1 l0_1.length c0_1)) (ds := []) #[false, false, false, false, false] (by kernel_rfl) rfl rfl ⟨(bc BK240 0), (bc BK240 1), (bc BK229 0), (bc BK229 1)⟩ (fun hHeld => ?_)
    generalize w28.drew = w29 at HO234 HO239 BK229 BK240 HB hHeld ⊢
    refine take_ (i := 0) (N := some 22) (v := ?_) (a' := ?_) #[true, false, false, false, false] rfl rfl (by kernel_rfl) (fun _ _ _ h => h) (Or.inl ⟨by rfl, ?_⟩) hHeld ?_ ?_; rotate_left; (rintro w' ⟨s0, s1, s2, s3⟩; go_simp; with_reducible rfl); rotate_left; (simp only [Act.put, List.setIfInBounds_toArray, List.set_cons_zero, List.set_cons_succ, i64_w, i32_w]; rfl)
    refine take_ (i := 1) (N := some 23) (v := ?_) (a' := ?_) #[true, true, false, false, false] rfl rfl (by kernel_rfl) (fun _ _ _ h => h) (Or.inl ⟨by rfl, ?_⟩) hHeld ?_ ?_; rotate_left; (rintro w' ⟨s0, s1, s2, s3⟩; go_simp; with_reducible rfl); rotate_left; (simp only [Act.put, List.setIfInBounds_toArray, List.set_cons_zero, List.set_cons_succ, i64_w, i32_w]; rfl)
    refine one_ (i := 2) (N := some 24) #[true, true, true, false, false] rfl rfl (by kernel_rfl) (by decide) (fun K hK => ?_)
    refine gg_ Try.func32 #[.agg #[.int .i64 a0_0, .slice A0_1 l0_1.length c0_1]] ?_
    with_reducible refine (laws_toNet.calls k a0_0 _ _ l0_1 t242 t243 _ ?side1 ?side2 A12.out).mono ?_
    (case side1 => exact cb HR0_1 HB)
    (case side2 => exact HC0_1.out)
    rintro e w30 ⟨v244, rfl, ho0, hb⟩
    refine ⟨_, rfl, ?_⟩
    have HO245 := am (Kd.R_lower (Kd.R_new' (Kd.R_new' ho0 (Kd.R_lt (onR HO234))) (Kd.R_lt (onR HO239))) (below_size (bn HB)))
    replace HO234 := am (Kd.R_elder' (onR HO234) (Kd.R_base ho0) hb)
    replace HO239 := am (Kd.R_elder' (onR HO239) (Kd.R_base ho0) hb)
    replace BK229 := bb BK229 hb
    replace BK240 := bb BK240 hb
    replace HB := bs HB hb
    (try clear hb)
    (try clear hb2)
    (try clear hk)
    (try clear hi)
    (try clear ho0)
    obtain ⟨Ao31, co31, eo31⟩ := Kd.R_slice HO245.out
    (first | subst eo31 | (injection eo31 with f1_ f2_ f3_; have f4_ := f1_.symm; have f5_ := f3_.symm; clear f1_ f2_ f3_; subst f4_; subst f5_))
    refine hK.out _ _ ⟨(bc BK240 0), (bc BK240 1), (bc BK229 0), (bc BK229 1)⟩ (fun hHeld => ?_)
    clear hK K
    refine nz_ 24 ?_
    refine one_ (i := 3) (N := some 25) #[true, true, true, true, false] rfl rfl (by kernel_rfl) (by decide) (fun K hK => ?_)
    refine gg_ Try.func34 #[.agg #[.int .i64 t236, .slice Ao27 t237.length co27], .agg #[.int .i64 t242, .slice Ao31 t243.length co31]] ?_
    with_reducible refine (laws_eqNet.calls k t236 _ _ t237 t242 _ _ t243 true _ ?side1 ?side2 ?side3 ?side4 A13.out).mono ?_
    (case side1 => exact (Kd.R_reads' (onR HO239)).2.2)
    (case side2 => exact (Kd.R_reads' HO239.out).2.1)
    (case side3 => exact (Kd.R_reads' (onR HO245)).2.2)
    (case side4 => exact (Kd.R_reads' HO245.out).2.1)
    rintro e w32 ⟨rfl, hb⟩
    refine ⟨_, rfl, ?_⟩
    replace HO234 := am (Kd.R_below (onR HO234) hb)
    replace HO239 := am (Kd.R_below (onR HO239) hb)
    replace HO245 := am (Kd.R_below (onR HO245) hb)
    replace BK229 := bb BK229 hb
    replace BK240 := bb BK240 hb
    replace HB := bs HB hb
    (try clear hb)
    (try clear hb2)
    (try clear hk)
    (try clear hi)
    refine hK.out _ _ ⟨(bc BK240 0), (bc BK240 1), (bc BK229 0), (bc BK229 1)⟩ (fun hHeld => ?_)
    clear hK K
    refine nz_ 25 ?_
    refine pure_ (i := 4) (N := some 26) (v := ?_) (a' := ?_) #[true, true, true, true, true] rfl rfl (by kernel_rfl) (fun _ _ _ h => h) (Or.inl ⟨by rfl, ?_⟩) ?_ ?_; rotate_left; (intro w'; go_simp; with_reducible rfl); rotate_left; (simp only [Act.put, List.setIfInBounds_toArray, List.set_cons_zero, List.set_cons_succ, i64_w, i32_w]; rfl)
    refine done_ (by kernel_rfl) ?_
    try go_wp2
    go_ret
    exact ⟨by first | rfl | (simp [errW_none, errW_some] <;> rfl) | (simp [*, errW_none, errW_some] <;> rfl), bn HB⟩
   ·replace c14 := Bool.eq_false_iff.mpr c14
    subst c14
    rw [if_neg (show ¬ (false = true) by decide)] at H
    exact absurd (Option.some.inj H) (by rw [hrt.out]; decide)
  ·rw [if_neg c11] at H
   have c11b0 : (t241 == t235) = false := beq_eq_false_iff_ne.mpr c11
   have c11b1 : (t241 != t235) = true := bne_iff_ne.mpr c11
   exact absurd (Option.some.inj H) (by rw [hrt.out]; decide)

/-- what is to be proved of laws_FnExactFlowWeak, without Go -/
def laws_FnExactFlowWeak.Pure : Prop := ∀ (a0_0 : Int) (l0_1 : List (S96)), ((Lit.int .i64 a0_0).wf = true) → (l0_1.length ≤ maxLen ∧ ∀ l0_1_ ∈ l0_1, (((Lit.int .i64 l0_1_.f0).wf = true) ∧ ((Lit.int .i64 l0_1_.f1).wf = true))) → ∃ k, laws_FnExactFlowWeak.f k a0_0 l0_1 = some true

end Go.Proofs.Ytdlnnjgjfngccaa.F
