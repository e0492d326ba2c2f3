-- Written by oprint.py (wip/tools) over the kit's print program, for this seat.
import Derived.Test.YtdlnnjgjfngccaaF0
import Derived.Test.YtdlnnjgjfngccaaF11
import Derived.Test.YtdlnnjgjfngccaaF7
import Derived.Test.YtdlnnjgjfngccaaXFlowS
namespace Go.Proofs.Ytdlnnjgjfngccaa.F
open Go.RowKit Go.Proofs.YtdlnnjgjfngccaaW.PrintWords Go.Proofs.YtdlnnjgjfngccaaW.PrintLast Go.Proofs.YtdlnnjgjfngccaaW.PrintMore
attribute [local go_sem] max2_int min2_int max_two min_two max_three min_three max_four min_four   -- for this text's walks alone
set_option linter.unusedVariables false
set_option linter.unusedSimpArgs false

/-! ### laws_FnExactFlowCount: function 4 -/
def laws_FnExactFlowCount.f (k : Nat) (a0_0 : Int) (l0_1 : List (S96)) (a1 : Int) (a2 : Int) : Option (Bool) := (laws_szNet.f a0_0 l0_1 1048576).bind fun t194 => (if t194 < 0 then (some true) else ((laws_toNet.f k a0_0 l0_1).bind fun bt195 => ((spec_FlowCount.f k bt195.1 bt195.2 a1 a2).bind fun t199 => ((laws_toNet.f k a0_0 l0_1).bind fun bt200 => ((impl_FlowCount.f k bt200.1 bt200.2 a1 a2).bind fun t205 => (if t205 = t199 then ((laws_toNet.f k a0_0 l0_1).bind fun bt206 => ((laws_eqNet.f k bt200.1 bt200.2 bt206.1 bt206.2).bind fun t210 => (if t210 = true then (some true) else (some false)))) else (some false)))))))
theorem laws_FnExactFlowCount.mono : ∀ a0 a1 a2 a3 k, LeO (laws_FnExactFlowCount.f k a0 a1 a2 a3) (laws_FnExactFlowCount.f (k + 1) a0 a1 a2 a3) := by
 intro a0 a1 a2 a3 k
 unfold laws_FnExactFlowCount.f
 have m0_ := @impl_FlowCount.mono
 have m1_ := @laws_eqNet.mono
 have m2_ := @laws_toNet.mono
 have m3_ := @spec_FlowCount.mono
 exact mo_
set_option maxHeartbeats 8000000 in
set_option maxRecDepth 100000 in
theorem laws_FnExactFlowCount.calls (k : Nat) (a0_0 : Int) (A0_1 : Option Addr) (c0_1 : Nat) (l0_1 : List (S96)) (a1 : Int) (a2 : Int) (r : Bool) (w : World) (hr0_1 : Kd.C k96 w A0_1 l0_1.length l0_1) (hc0_1 : l0_1.length ≤ c0_1) (hrt : Aside0 (r = true)) (h : laws_FnExactFlowCount.f k a0_0 l0_1 a1 a2 = some r) :
  Calls Try.prog 4 #[.agg #[.int .i64 a0_0, .slice A0_1 l0_1.length c0_1], .int .i64 a1, .int .i64 a2] w fun e w' => e = .returned (.bool r) ∧ Below w.heap.size w w' := by
 have hu29 := Try.underlying29
 have hu34 := Try.underlying34
 have HR0_1 := am hr0_1
 have HC0_1 := am hc0_1
 clear hr0_1 hc0_1
 have HB := am (Below.refl w.heap.size w)
 have H : ((laws_szNet.f a0_0 l0_1 1048576).bind fun t194 => (if t194 < 0 then (some true) else ((laws_toNet.f k a0_0 l0_1).bind fun bt195 => ((spec_FlowCount.f k bt195.1 bt195.2 a1 a2).bind fun t199 => ((laws_toNet.f k a0_0 l0_1).bind fun bt200 => ((impl_FlowCount.f k bt200.1 bt200.2 a1 a2).bind fun t205 => (if t205 = t199 then ((laws_toNet.f k a0_0 l0_1).bind fun bt206 => ((laws_eqNet.f k bt200.1 bt200.2 bt206.1 bt206.2).bind fun t210 => (if t210 = true then (some true) else (some false)))) else (some false)))))))) = some r := h
 clear h
 replace H := Option.bind_eq_some_iff.mp H
 obtain ⟨t194, A40, H⟩ := H
 (try dsimp only at H)
 have A4 := am A40
 clear A40
 by_cases c5 : t194 < 0
 ·rw [if_pos c5] at H
  have c5b0 := decide_eq_true c5
  clear c5
  obtain rfl := Option.some.inj H
  go_enter Try.func4, Try.ntmps4
  go_wp2_with (first | ((with_reducible refine gate_dst (N := 3) rfl ?_); refine be_ 3 #[.int .i64 a0_0, .slice A0_1 l0_1.length c0_1] 29 ?_; intro gb193 hg w6 hbox hb; have BK193 := am hbox; have GW193 := am (ge_ hg HB); have GE193 := am (ge_ hg HB); replace HB := bs HB hb; clear hb hbox hg; obtain ⟨hcz7_0, hcz7_1, hfz7_0, hfz7_1⟩ := c2 BK193) | ((with_reducible refine gate_callee (f := 30) rfl ?_); refine gl_ (some 13) Try.func30 #[.agg #[.int .i64 a0_0, .slice A0_1 l0_1.length c0_1], .int .i64 1048576] ?_; (with_reducible refine (laws_szNet.calls a0_0 _ _ l0_1 1048576 t194 _ ?side1 ?side2 A4.out).mono ?_); (case side1 => exact cb HR0_1 HB); (case side2 => exact HC0_1.out); rintro e w8 ⟨rfl, hb⟩; refine ⟨_, rfl, ?_⟩; replace BK193 := bb BK193 hb; replace HB := bs HB hb; (try clear hb); (try clear hi)))
  go_ret
  exact ⟨by first | rfl | (simp [errW_none, errW_some] <;> rfl) | (simp [*, errW_none, errW_some] <;> rfl), bn HB⟩
 ·rw [if_neg c5] at H
  have c5b0 := decide_eq_false c5
  clear c5
  replace H := Option.bind_eq_some_iff.mp H
  obtain ⟨⟨t195, t196⟩, A90, H⟩ := H
  (try dsimp only at H)
  have A9 := am A90
  clear A90
  replace H := Option.bind_eq_some_iff.mp H
  obtain ⟨t199, A100, H⟩ := H
  (try dsimp only at H)
  have A10 := am A100
  clear A100
  replace H := Option.bind_eq_some_iff.mp H
  obtain ⟨⟨t200, t201⟩, A110, H⟩ := H
  (try dsimp only at H)
  have A11 := am A110
  clear A110
  replace H := Option.bind_eq_some_iff.mp H
  obtain ⟨t205, A120, H⟩ := H
  (try dsimp only at H)
  have A12 := am A120
  clear A120
  by_cases c13 : t205 = t199
  ·rw [if_pos c13] at H
   have c13b0 : (t205 == t199) = true := beq_iff_eq.mpr c13
   have c13b1 : (t205 != t199) = false := bne_eq_false_iff_eq.mpr c13
   clear c13
   replace H := Option.bind_eq_some_iff.mp H
   obtain ⟨⟨t206, t207⟩, A140, H⟩ := H
   (try dsimp only at H)
   have A14 := am A140
   clear A140
   replace H := Option.bind_eq_some_iff.mp H
   obtain ⟨t210, A150, H⟩ := H
   (try dsimp only at H)
   have A15 := am A150
   clear A150
   by_cases c16 : t210 = true
   ·subst c16
    rw [if_pos rfl] at H
    obtain rfl := Option.some.inj H
    go_enter Try.func4, Try.ntmps4
    try go_wp2_with (first | ((with_reducible refine gate_dst (N := 3) rfl ?_); refine be_ 3 #[.int .i64 a0_0, .slice A0_1 l0_1.length c0_1] 29 ?_; intro gb193 hg w17 hbox hb; have BK193 := am hbox; have GW193 := am (ge_ hg HB); have GE193 := am (ge_ hg HB); replace HB := bs HB hb; clear hb hbox hg; obtain ⟨hcz18_0, hcz18_1, hfz18_0, hfz18_1⟩ := c2 BK193) | ((with_reducible refine gate_callee (f := 30) rfl ?_); refine gl_ (some 13) Try.func30 #[.agg #[.int .i64 a0_0, .slice A0_1 l0_1.length c0_1], .int .i64 1048576] ?_; (with_reducible refine (laws_szNet.calls a0_0 _ _ l0_1 1048576 t194 _ ?side1 ?side2 A4.out).mono ?_); (case side1 => exact cb HR0_1 HB); (case side2 => exact HC0_1.out); rintro e w19 ⟨rfl, hb⟩; refine ⟨_, rfl, ?_⟩; replace BK193 := bb BK193 hb; replace HB := bs HB hb; (try clear hb); obtain ⟨hcz20_0, hcz20_1, hfz20_0, hfz20_1⟩ := c2 BK193) | ((with_reducible refine gate_callee (f := 32) rfl ?_); refine gl_ (some 17) Try.func32 #[.agg #[.int .i64 a0_0, .slice A0_1 l0_1.length c0_1]] ?_; (with_reducible refine (laws_toNet.calls k a0_0 _ _ l0_1 t195 t196 _ ?side1 ?side2 A9.out).mono ?_); (case side1 => exact cb HR0_1 HB); (case side2 => exact HC0_1.out); rintro e w21 ⟨v197, rfl, ho0, hb⟩; refine ⟨_, rfl, ?_⟩; have HO198 := am (Kd.R_lower ho0 (below_size (bn HB))); replace BK193 := bb BK193 hb; replace HB := bs HB hb; (try clear hb); (try clear ho0); obtain ⟨Ao22, co22, eo22⟩ := Kd.R_slice HO198.out; subst eo22) | ((with_reducible refine gate_callee (f := 31) rfl ?_); refine gl_ (some 20) Try.func31 #[.agg #[.int .i64 t195, .slice Ao22 t196.length co22], .int .i64 a1, .int .i64 a2] ?_; (with_reducible refine (spec_FlowCount.calls k t195 _ _ t196 a1 a2 t199 _ ?side1 ?side2 A10.out).mono ?_); (case side1 => exact (Kd.R_reads' (onR HO198)).2.2); (case side2 => exact (Kd.R_reads' HO198.out).2.1); rintro e w23 ⟨rfl, hb⟩; refine ⟨_, rfl, ?_⟩; replace HO198 := am (Kd.R_below (onR HO198) hb); replace BK193 := bb BK193 hb; replace HB := bs HB hb; (try clear hb); obtain ⟨hcz24_0, hcz24_1, hfz24_0, hfz24_1⟩ := c2 BK193) | ((with_reducible refine gate_callee (f := 32) rfl ?_); refine gl_ (some 22) Try.func32 #[.agg #[.int .i64 a0_0, .slice A0_1 l0_1.length c0_1]] ?_; (with_reducible refine (laws_toNet.calls k a0_0 _ _ l0_1 t200 t201 _ ?side1 ?side2 A11.out).mono ?_); (case side1 => exact cb HR0_1 HB); (case side2 => exact HC0_1.out); rintro e w25 ⟨v202, rfl, ho0, hb⟩; refine ⟨_, rfl, ?_⟩; have HO203 := am (Kd.R_lower (Kd.R_new' ho0 (Kd.R_lt (onR HO198))) (below_size (bn HB))); replace HO198 := am (Kd.R_elder' (onR HO198) (Kd.R_base ho0) hb); replace BK193 := bb BK193 hb; replace HB := bs HB hb; (try clear hb); (try clear ho0)) | ((with_reducible refine gate_dst (N := 9) rfl ?_); refine be_ 9 #[.int .i64 0, .slice none 0 0] 34 ?_; intro gb204 hg w26 hbox hb; replace HO198 := am (Kd.R_below (onR HO198) hb); replace HO203 := am (Kd.R_below (onR HO203) hb); have BK204 := am hbox; have GW204 := am (ge_ hg HB); have GE204 := am (ge_ hg HB); replace HB := bs HB hb; obtain ⟨NB193_204, NB204_193⟩ := nb_ hg BK193; replace BK193 := bb BK193 hb; clear hb hbox hg; obtain ⟨hnb27, hnc27⟩ := n2 NB204_193 NB193_204; obtain ⟨hcz28_0, hcz28_1, hfz28_0, hfz28_1⟩ := c2 BK204; obtain ⟨Ao29, co29, eo29⟩ := Kd.R_slice HO203.out; subst eo29) | ((with_reducible refine gate_callee (f := 33) rfl ?_); refine gl_ (some 26) Try.func33 #[.agg #[.int .i64 t200, .slice Ao29 t201.length co29], .int .i64 a1, .int .i64 a2] ?_; (with_reducible refine (impl_FlowCount.calls k t200 _ _ t201 a1 a2 t205 _ ?side1 ?side2 A12.out).mono ?_); (case side1 => refine (Kd.R_reads' (e := 73) (base := w.heap.size) (ok := fun k_ => (True ∧ some k_ ≠ (.slice Ao22 t196.length co22 : Value).ownBlock)) (n := t201.length) (c := co29) ?_).2.2; exact (by (with_reducible repeat (first | apply Kd.R_alloc | apply Kd.R_drewN | apply Kd.R_drew)); exact (Kd.R_mono (Kd.R_far (p := ⟨gb204, 1, none⟩) (Kd.R_far (p := ⟨gb204, 0, none⟩) (Kd.R_types HO203.out BK204.out (by decide)) (fun _ hk => hk.2) (.int .i64 t200)) (fun _ hk => hk.2) (.slice Ao29 t201.length co29)) (fun _ h_ => h_.1)))); (case side2 => exact (Kd.R_reads' HO203.out).2.1); rintro e w30 ⟨rfl, hb⟩; refine ⟨_, rfl, ?_⟩; replace HO198 := am (Kd.R_below (by (with_reducible repeat (first | apply Kd.R_alloc | apply Kd.R_drewN | apply Kd.R_drew)); exact (Kd.R_mono (Kd.R_far (p := ⟨gb204, 1, none⟩) (Kd.R_far (p := ⟨gb204, 0, none⟩) (Kd.R_types HO198.out BK204.out (by decide)) (fun _ hk => hk.2) (.int .i64 t200)) (fun _ hk => hk.2) (.slice Ao29 t201.length co29)) (fun _ h_ => h_.1))) hb); replace HO203 := am (Kd.R_below (by (with_reducible repeat (first | apply Kd.R_alloc | apply Kd.R_drewN | apply Kd.R_drew)); exact (Kd.R_mono (Kd.R_far (p := ⟨gb204, 1, none⟩) (Kd.R_far (p := ⟨gb204, 0, none⟩) (Kd.R_types HO203.out BK204.out (by decide)) (fun _ hk => hk.2) (.int .i64 t200)) (fun _ hk => hk.2) (.slice Ao29 t201.length co29)) (fun _ h_ => h_.1))) hb); replace BK193 := bb BK193 hb; replace BK204 := am (blk_below (g := gb204) (o := .cells #[.int .i64 t200, .slice Ao29 t201.length co29] 34 (0, 0)) (by (with_reducible repeat (first | refine blk_drewN ?_ _ | refine blk_drew ?_ | refine blk_alloc ?_ _)); refine blk_put (cs := #[.int .i64 t200, .slice none 0 0]) ?_ 1 _ rfl; (with_reducible repeat (first | refine blk_drewN ?_ _ | refine blk_drew ?_ | refine blk_alloc ?_ _)); refine blk_put (cs := #[.int .i64 0, .slice none 0 0]) ?_ 0 _ rfl; (with_reducible repeat (first | refine blk_drewN ?_ _ | refine blk_drew ?_ | refine blk_alloc ?_ _)); exact BK204.out) hb); replace HB := bs HB hb; (try clear hb); (try clear hi)))
    replace HO198 := am (Kd.R_drew HO198.out)
    replace HO203 := am (Kd.R_drew HO203.out)
    replace BK193 := am (blk_drew BK193.out)
    replace BK204 := am (blk_drew BK204.out)
    replace HB := am (below_drew1 HB.out)
    refine start_ (n := 5) (S := fun w' => w'.cell? ⟨gb204, 0, none⟩ = some (.int .i64 t200) ∧ w'.cell? ⟨gb204, 1, none⟩ = some (.slice Ao29 t201.length co29) ∧ w'.cell? ⟨gb193, 0, none⟩ = some (.int .i64 a0_0) ∧ w'.cell? ⟨gb193, 1, none⟩ = some (.slice A0_1 l0_1.length c0_1)) (ds := []) #[false, false, false, false, false] (by kernel_rfl) rfl rfl ⟨(bc BK204 0), (bc BK204 1), (bc BK193 0), (bc BK193 1)⟩ (fun hHeld => ?_)
    generalize w30.drew = w31 at HO198 HO203 BK193 BK204 HB hHeld ⊢
    refine take_ (i := 0) (N := some 30) (v := ?_) (a' := ?_) #[true, false, false, false, false] rfl rfl (by kernel_rfl) (fun _ _ _ h => h) (Or.inl ⟨by rfl, ?_⟩) hHeld ?_ ?_; rotate_left; (rintro w' ⟨s0, s1, s2, s3⟩; go_simp; with_reducible rfl); rotate_left; (simp only [Act.put, List.setIfInBounds_toArray, List.set_cons_zero, List.set_cons_succ, i64_w, i32_w]; rfl)
    refine take_ (i := 1) (N := some 31) (v := ?_) (a' := ?_) #[true, true, false, false, false] rfl rfl (by kernel_rfl) (fun _ _ _ h => h) (Or.inl ⟨by rfl, ?_⟩) hHeld ?_ ?_; rotate_left; (rintro w' ⟨s0, s1, s2, s3⟩; go_simp; with_reducible rfl); rotate_left; (simp only [Act.put, List.setIfInBounds_toArray, List.set_cons_zero, List.set_cons_succ, i64_w, i32_w]; rfl)
    refine one_ (i := 2) (N := some 32) #[true, true, true, false, false] rfl rfl (by kernel_rfl) (by decide) (fun K hK => ?_)
    refine gg_ Try.func32 #[.agg #[.int .i64 a0_0, .slice A0_1 l0_1.length c0_1]] ?_
    with_reducible refine (laws_toNet.calls k a0_0 _ _ l0_1 t206 t207 _ ?side1 ?side2 A14.out).mono ?_
    (case side1 => exact cb HR0_1 HB)
    (case side2 => exact HC0_1.out)
    rintro e w32 ⟨v208, rfl, ho0, hb⟩
    refine ⟨_, rfl, ?_⟩
    have HO209 := am (Kd.R_lower (Kd.R_new' (Kd.R_new' ho0 (Kd.R_lt (onR HO198))) (Kd.R_lt (onR HO203))) (below_size (bn HB)))
    replace HO198 := am (Kd.R_elder' (onR HO198) (Kd.R_base ho0) hb)
    replace HO203 := am (Kd.R_elder' (onR HO203) (Kd.R_base ho0) hb)
    replace BK193 := bb BK193 hb
    replace BK204 := bb BK204 hb
    replace HB := bs HB hb
    (try clear hb)
    (try clear hb2)
    (try clear hk)
    (try clear hi)
    (try clear ho0)
    obtain ⟨Ao33, co33, eo33⟩ := Kd.R_slice HO209.out
    (first | subst eo33 | (injection eo33 with f1_ f2_ f3_; have f4_ := f1_.symm; have f5_ := f3_.symm; clear f1_ f2_ f3_; subst f4_; subst f5_))
    refine hK.out _ _ ⟨(bc BK204 0), (bc BK204 1), (bc BK193 0), (bc BK193 1)⟩ (fun hHeld => ?_)
    clear hK K
    refine nz_ 32 ?_
    refine one_ (i := 3) (N := some 33) #[true, true, true, true, false] rfl rfl (by kernel_rfl) (by decide) (fun K hK => ?_)
    refine gg_ Try.func34 #[.agg #[.int .i64 t200, .slice Ao29 t201.length co29], .agg #[.int .i64 t206, .slice Ao33 t207.length co33]] ?_
    with_reducible refine (laws_eqNet.calls k t200 _ _ t201 t206 _ _ t207 true _ ?side1 ?side2 ?side3 ?side4 A15.out).mono ?_
    (case side1 => exact (Kd.R_reads' (onR HO203)).2.2)
    (case side2 => exact (Kd.R_reads' HO203.out).2.1)
    (case side3 => exact (Kd.R_reads' (onR HO209)).2.2)
    (case side4 => exact (Kd.R_reads' HO209.out).2.1)
    rintro e w34 ⟨rfl, hb⟩
    refine ⟨_, rfl, ?_⟩
    replace HO198 := am (Kd.R_below (onR HO198) hb)
    replace HO203 := am (Kd.R_below (onR HO203) hb)
    replace HO209 := am (Kd.R_below (onR HO209) hb)
    replace BK193 := bb BK193 hb
    replace BK204 := bb BK204 hb
    replace HB := bs HB hb
    (try clear hb)
    (try clear hb2)
    (try clear hk)
    (try clear hi)
    refine hK.out _ _ ⟨(bc BK204 0), (bc BK204 1), (bc BK193 0), (bc BK193 1)⟩ (fun hHeld => ?_)
    clear hK K
    refine nz_ 33 ?_
    refine pure_ (i := 4) (N := some 34) (v := ?_) (a' := ?_) #[true, true, true, true, true] rfl rfl (by kernel_rfl) (fun _ _ _ h => h) (Or.inl ⟨by rfl, ?_⟩) ?_ ?_; rotate_left; (intro w'; go_simp; with_reducible rfl); rotate_left; (simp only [Act.put, List.setIfInBounds_toArray, List.set_cons_zero, List.set_cons_succ, i64_w, i32_w]; rfl)
    refine done_ (by kernel_rfl) ?_
    try go_wp2
    go_ret
    exact ⟨by first | rfl | (simp [errW_none, errW_some] <;> rfl) | (simp [*, errW_none, errW_some] <;> rfl), bn HB⟩
   ·replace c16 := Bool.eq_false_iff.mpr c16
    subst c16
    rw [if_neg (show ¬ (false = true) by decide)] at H
    exact absurd (Option.some.inj H) (by rw [hrt.out]; decide)
  ·rw [if_neg c13] at H
   have c13b0 : (t205 == t199) = false := beq_eq_false_iff_ne.mpr c13
   have c13b1 : (t205 != t199) = true := bne_iff_ne.mpr c13
   exact absurd (Option.some.inj H) (by rw [hrt.out]; decide)

/-- what is to be proved of laws_FnExactFlowCount, without Go -/
def laws_FnExactFlowCount.Pure : Prop := ∀ (a0_0 : Int) (l0_1 : List (S96)) (a1 : Int) (a2 : Int), ((Lit.int .i64 a0_0).wf = true) → (l0_1.length ≤ maxLen ∧ ∀ l0_1_ ∈ l0_1, (((Lit.int .i64 l0_1_.f0).wf = true) ∧ ((Lit.int .i64 l0_1_.f1).wf = true))) → ((Lit.int .i64 a1).wf = true) → ((Lit.int .i64 a2).wf = true) → ∃ k, laws_FnExactFlowCount.f k a0_0 l0_1 a1 a2 = some true

end Go.Proofs.Ytdlnnjgjfngccaa.F
