-- Written by oprint.py (wip/tools) over the kit's print program, for this seat.
import Derived.Test.YtdlnnjgjfngccaaF0
import Derived.Test.YtdlnnjgjfngccaaF14
import Derived.Test.YtdlnnjgjfngccaaF31
import Derived.Test.YtdlnnjgjfngccaaF34
import Derived.Test.YtdlnnjgjfngccaaF35
import Derived.Test.YtdlnnjgjfngccaaF38
import Derived.Test.YtdlnnjgjfngccaaF41
import Derived.Test.YtdlnnjgjfngccaaF45
import Derived.Test.YtdlnnjgjfngccaaF61
import Derived.Test.YtdlnnjgjfngccaaF67
import Derived.Test.YtdlnnjgjfngccaaF8
import Derived.Test.YtdlnnjgjfngccaaF81
namespace Go.Proofs.Ytdlnnjgjfngccaa.F
open Go.RowKit Go.Proofs.YtdlnnjgjfngccaaW.PrintWords Go.Proofs.YtdlnnjgjfngccaaW.PrintLast Go.Proofs.YtdlnnjgjfngccaaW.PrintMore
attribute [local go_sem] max2_int min2_int max_two min_two max_three min_three max_four min_four   -- for this text's walks alone
set_option linter.unusedVariables false
set_option linter.unusedSimpArgs false

/-! ### spec_DrawBridgeParts: function 73 -/
def spec_DrawBridgeParts.f (k : Nat) (l0 : List Int) : Option (Int × (List (S73))) := (spec_l6Open.f l0).bind fun bt1204 => ((spec_l71Any.f k bt1204.1 bt1204.2).bind fun bt1207 => (some (bt1207.1, bt1207.2.1)))
theorem spec_DrawBridgeParts.mono : ∀ a0 k, LeO (spec_DrawBridgeParts.f k a0) (spec_DrawBridgeParts.f (k + 1) a0) := by
 intro a0 k
 unfold spec_DrawBridgeParts.f
 have m0_ := @spec_l71Any.mono
 exact mo_
set_option maxHeartbeats 8000000 in
set_option maxRecDepth 100000 in
theorem spec_DrawBridgeParts.calls (k : Nat) (A0 : Option Addr) (c0 : Nat) (l0 : List Int) (r1 : Int) (r2 : List (S73)) (w : World) (hr0 : Kd.C (Kd.int .u8) w A0 l0.length l0) (hc0 : l0.length ≤ c0) (h : spec_DrawBridgeParts.f k l0 = some (r1, r2)) :
  Calls Try.prog 73 #[.slice A0 l0.length c0] w fun e w' => ∃ v1_ : Value, e = .returned (.agg #[.int .i64 r1, v1_]) ∧ Kd.R k73 73 w' w.heap.size (fun _ => True) v1_ r2 ∧ Below w.heap.size w w' := by
 have hu34 := Try.underlying34
 have HR0 := am hr0
 have HC0 := am hc0
 clear hr0 hc0
 have HB := am (Below.refl w.heap.size w)
 have H : ((spec_l6Open.f l0).bind fun bt1204 => ((spec_l71Any.f k bt1204.1 bt1204.2).bind fun bt1207 => (some (bt1207.1, bt1207.2.1)))) = some (r1, r2) := h
 clear h
 replace H := Option.bind_eq_some_iff.mp H
 obtain ⟨⟨t1204, t1205⟩, A20, H⟩ := H
 (try dsimp only at H)
 have A2 := am A20
 clear A20
 replace H := Option.bind_eq_some_iff.mp H
 obtain ⟨⟨t1207, t1208, t1211⟩, A30, H⟩ := H
 (try dsimp only at H)
 have A3 := am A30
 clear A30
 simp only [Option.some.injEq, Prod.mk.injEq] at H
 obtain ⟨rfl, rfl⟩ := H
 go_enter Try.func73, Try.ntmps73
 go_wp2_with (first | ((with_reducible refine gate_dst (N := 2) rfl ?_); refine be_ 2 #[.int .i64 0, .slice none 0 0] 34 ?_; intro gb1203 hg w4 hbox hb; have BK1203 := am hbox; have GW1203 := am (ge_ hg HB); have GE1203 := am (ge_ hg HB); replace HB := bs HB hb; clear hb hbox hg) | ((with_reducible refine gate_callee (f := 109) rfl ?_); refine gl_ (some 4) Try.func109 #[.slice A0 l0.length c0] ?_; (with_reducible refine (spec_l6Open.calls _ _ l0 t1204 t1205 w _ ?side1 ?side2 ?side3 A2.out).mono ?_); (case side1 => exact bn HB); (case side2 => exact HR0.out); (case side3 => exact HC0.out); rintro e w5 ⟨g1206, rfl, hi, hb, hb2⟩; refine ⟨_, rfl, ?_⟩; replace HB := am hb; have HI1206 := am hi; have NB1206_1203 := am (IsS120.ne_blk hi (blk_below (bkn BK1203) hb2) (by decide)); have NB1203_1206 := am (Ne.symm (IsS120.ne_blk hi (blk_below (bkn BK1203) hb2) (by decide))); replace BK1203 := am (blk_below (bkn BK1203) hb2); (try clear hb); (try clear hb2); (try clear hi)) | ((with_reducible refine gate_callee (f := 110) rfl ?_); refine gl_ (some 5) Try.func110 #[.pointer (some ⟨g1206, 0, none⟩)] ?_; (with_reducible refine (spec_l71Any.calls k g1206 t1204 t1205 t1207 t1208 t1211 w _ ?side1 ?side2 A3.out).mono ?_); (case side1 => exact IsS120.now); (case side2 => exact bn HB); rintro e w6 ⟨v1209, rfl, ho0, hi, hb, hk⟩; refine ⟨_, rfl, ?_⟩; replace BK1203 := am (KeepBut.blk hk (bkn BK1203) NB1203_1206.out (by simp)); have HO1210 := am (Kd.R_lower ho0 (below_size (bn HB))); replace HB := am hb; replace HI1206 := am hi; (try clear hb); (try clear hk); (try clear hi); (try clear ho0); obtain ⟨hnb7, hnc7⟩ := n2 NB1203_1206 NB1206_1203; obtain ⟨hcz8_0, hcz8_1, hfz8_0, hfz8_1⟩ := c2 BK1203; obtain ⟨Ao9, co9, eo9⟩ := Kd.R_slice HO1210.out; subst eo9))
 refine bodyPost_ret (results_cell_row rfl _ _ gb1203 34 #[.int .i64 t1207, .slice Ao9 t1208.length co9] (0, 0) _ rfl (by (with_reducible repeat (first | refine blk_drewN ?_ _ | refine blk_drew ?_ | refine blk_alloc ?_ _)); refine blk_put (cs := #[.int .i64 t1207, .slice none 0 0]) ?_ 1 _ rfl; (with_reducible repeat (first | refine blk_drewN ?_ _ | refine blk_drew ?_ | refine blk_alloc ?_ _)); refine blk_put (cs := #[.int .i64 0, .slice none 0 0]) ?_ 0 _ rfl; (with_reducible repeat (first | refine blk_drewN ?_ _ | refine blk_drew ?_ | refine blk_alloc ?_ _)); exact BK1203.out) Try.underlying34 rfl (by kernel_rfl)) rfl ?_
 exact ⟨_, by first | rfl | (simp [errW_none, errW_some] <;> rfl) | (simp [*, errW_none, errW_some] <;> rfl), by (with_reducible repeat (first | apply Kd.R_alloc | apply Kd.R_drewN | apply Kd.R_drew)); exact Kd.R_mono (Kd.R_far (p := ⟨gb1203, 1, none⟩) (Kd.R_far (p := ⟨gb1203, 0, none⟩) (Kd.R_types HO1210.out BK1203.out (by decide)) (fun _ hk => hk.2) (.int .i64 t1207)) (fun _ hk => hk.2) (.slice Ao9 t1208.length co9)) (fun _ hk => trivial), bn HB⟩

/-! ### impl_BridgeParts: function 74 -/
def impl_BridgeParts.f (k : Nat) (a0_0 : Int) (l0_1 : List (S73)) : Option (List Int) := (impl_NetOk.f k a0_0 l0_1).bind fun t1213 => (if t1213 = true then ((impl_Net_bridges.f k a0_0 l0_1).bind fun t1214 => ((impl_Net_less.f k a0_0 l0_1 t1214).bind fun bt1217 => ((impl_Net_parts.f k bt1217.1 bt1217.2).bind fun t1221 => (some t1221)))) else (some (([] : List Int))))
theorem impl_BridgeParts.mono : ∀ a0 a1 k, LeO (impl_BridgeParts.f k a0 a1) (impl_BridgeParts.f (k + 1) a0 a1) := by
 intro a0 a1 k
 unfold impl_BridgeParts.f
 have m0_ := @impl_NetOk.mono
 have m1_ := @impl_Net_bridges.mono
 have m2_ := @impl_Net_less.mono
 have m3_ := @impl_Net_parts.mono
 exact mo_
set_option maxHeartbeats 8000000 in
set_option maxRecDepth 100000 in
theorem impl_BridgeParts.calls (k : Nat) (a0_0 : Int) (A0_1 : Option Addr) (c0_1 : Nat) (l0_1 : List (S73)) (r : List Int) (w : World) (hr0_1 : Kd.C k73 w A0_1 l0_1.length l0_1) (hc0_1 : l0_1.length ≤ c0_1) (h : impl_BridgeParts.f k a0_0 l0_1 = some r) :
  Calls Try.prog 74 #[.agg #[.int .i64 a0_0, .slice A0_1 l0_1.length c0_1]] w fun e w' => ∃ v0_ : Value, e = .returned (v0_) ∧ Kd.R (Kd.int .i64) 3 w' w.heap.size (fun _ => True) v0_ r ∧ Below w.heap.size w w' := by
 have hu34 := Try.underlying34
 have HR0_1 := am hr0_1
 have HC0_1 := am hc0_1
 clear hr0_1 hc0_1
 have HB := am (Below.refl w.heap.size w)
 have H : ((impl_NetOk.f k a0_0 l0_1).bind fun t1213 => (if t1213 = true then ((impl_Net_bridges.f k a0_0 l0_1).bind fun t1214 => ((impl_Net_less.f k a0_0 l0_1 t1214).bind fun bt1217 => ((impl_Net_parts.f k bt1217.1 bt1217.2).bind fun t1221 => (some t1221)))) else (some (([] : List Int))))) = some r := h
 clear h
 replace H := Option.bind_eq_some_iff.mp H
 obtain ⟨t1213, A20, H⟩ := H
 (try dsimp only at H)
 have A2 := am A20
 clear A20
 by_cases c3 : t1213 = true
 ·subst c3
  rw [if_pos rfl] at H
  replace H := Option.bind_eq_some_iff.mp H
  obtain ⟨t1214, A40, H⟩ := H
  (try dsimp only at H)
  have A4 := am A40
  clear A40
  replace H := Option.bind_eq_some_iff.mp H
  obtain ⟨⟨t1217, t1218⟩, A50, H⟩ := H
  (try dsimp only at H)
  have A5 := am A50
  clear A50
  replace H := Option.bind_eq_some_iff.mp H
  obtain ⟨t1221, A60, H⟩ := H
  (try dsimp only at H)
  have A6 := am A60
  clear A60
  obtain rfl := Option.some.inj H
  go_enter Try.func74, Try.ntmps74
  try go_wp2_with (first | ((with_reducible refine gate_dst (N := 1) rfl ?_); refine be_ 1 #[.int .i64 a0_0, .slice A0_1 l0_1.length c0_1] 34 ?_; intro gb1212 hg w7 hbox hb; have BK1212 := am hbox; have GW1212 := am (ge_ hg HB); have GE1212 := am (ge_ hg HB); replace HB := bs HB hb; clear hb hbox hg; obtain ⟨hcz8_0, hcz8_1, hfz8_0, hfz8_1⟩ := c2 BK1212) | ((with_reducible refine gate_callee (f := 91) rfl ?_); refine gl_ (some 4) Try.func91 #[.agg #[.int .i64 a0_0, .slice A0_1 l0_1.length c0_1]] ?_; (with_reducible refine (impl_NetOk.calls k a0_0 _ _ l0_1 true _ ?side1 ?side2 A2.out).mono ?_); (case side1 => exact cb HR0_1 HB); (case side2 => exact HC0_1.out); rintro e w9 ⟨rfl, hb⟩; refine ⟨_, rfl, ?_⟩; replace BK1212 := bb BK1212 hb; replace HB := bs HB hb; (try clear hb); (try clear hi)))
  replace BK1212 := am (blk_drew BK1212.out)
  replace HB := am (below_drew1 HB.out)
  refine start_ (n := 6) (S := fun w' => w'.cell? ⟨gb1212, 0, none⟩ = some (.int .i64 a0_0) ∧ w'.cell? ⟨gb1212, 1, none⟩ = some (.slice A0_1 l0_1.length c0_1)) (ds := []) #[false, false, false, false, false, false] (by kernel_rfl) rfl rfl ⟨(bc BK1212 0), (bc BK1212 1)⟩ (fun hHeld => ?_)
  generalize w9.drew = w10 at BK1212 HB hHeld ⊢
  refine take_ (i := 0) (N := some 7) (v := ?_) (a' := ?_) #[true, false, false, false, false, false] rfl rfl (by kernel_rfl) (fun _ _ _ h => h) (Or.inl ⟨by rfl, ?_⟩) hHeld ?_ ?_; rotate_left; (rintro w' ⟨s0, s1⟩; go_simp; with_reducible rfl); rotate_left; (simp only [Act.put, List.setIfInBounds_toArray, List.set_cons_zero, List.set_cons_succ, i64_w, i32_w]; rfl)
  refine take_ (i := 1) (N := some 8) (v := ?_) (a' := ?_) #[true, true, false, false, false, false] rfl rfl (by kernel_rfl) (fun _ _ _ h => h) (Or.inl ⟨by rfl, ?_⟩) hHeld ?_ ?_; rotate_left; (rintro w' ⟨s0, s1⟩; go_simp; with_reducible rfl); rotate_left; (simp only [Act.put, List.setIfInBounds_toArray, List.set_cons_zero, List.set_cons_succ, i64_w, i32_w]; rfl)
  refine one_ (i := 2) (N := some 9) #[true, true, true, false, false, false] rfl rfl (by kernel_rfl) (by decide) (fun K hK => ?_)
  refine gg_ Try.func117 #[.agg #[.int .i64 a0_0, .slice A0_1 l0_1.length c0_1]] ?_
  with_reducible refine (impl_Net_bridges.calls k a0_0 _ _ l0_1 t1214 _ ?side1 ?side2 A4.out).mono ?_
  (case side1 => exact cb HR0_1 HB)
  (case side2 => exact HC0_1.out)
  rintro e w11 ⟨v1215, rfl, ho0, hb⟩
  refine ⟨_, rfl, ?_⟩
  have HO1216 := am (Kd.R_lower ho0 (below_size (bn HB)))
  replace BK1212 := bb BK1212 hb
  replace HB := bs HB hb
  (try clear hb)
  (try clear hb2)
  (try clear hk)
  (try clear hi)
  (try clear ho0)
  obtain ⟨Ao12, co12, eo12⟩ := Kd.R_slice HO1216.out
  (first | subst eo12 | (injection eo12 with f1_ f2_ f3_; have f4_ := f1_.symm; have f5_ := f3_.symm; clear f1_ f2_ f3_; subst f4_; subst f5_))
  refine hK.out _ _ ⟨(bc BK1212 0), (bc BK1212 1)⟩ (fun hHeld => ?_)
  clear hK K
  refine nz_ 9 ?_
  refine one_ (i := 3) (N := some 10) #[true, true, true, true, false, false] rfl rfl (by kernel_rfl) (by decide) (fun K hK => ?_)
  refine gg_ Try.func106 #[.agg #[.int .i64 a0_0, .slice A0_1 l0_1.length c0_1], .slice Ao12 t1214.length co12] ?_
  with_reducible refine (impl_Net_less.calls k a0_0 _ _ l0_1 _ _ t1214 t1217 t1218 _ ?side1 ?side2 ?side3 ?side4 A5.out).mono ?_
  (case side1 => exact cb HR0_1 HB)
  (case side2 => exact HC0_1.out)
  (case side3 => exact (Kd.R_reads' (onR HO1216)).2.2)
  (case side4 => exact (Kd.R_reads' HO1216.out).2.1)
  rintro e w13 ⟨v1219, rfl, ho0, hb⟩
  refine ⟨_, rfl, ?_⟩
  have HO1220 := am (Kd.R_lower (Kd.R_new' ho0 (Kd.R_lt (onR HO1216))) (below_size (bn HB)))
  replace HO1216 := am (Kd.R_elder' (onR HO1216) (Kd.R_base ho0) hb)
  replace BK1212 := bb BK1212 hb
  replace HB := bs HB hb
  (try clear hb)
  (try clear hb2)
  (try clear hk)
  (try clear hi)
  (try clear ho0)
  obtain ⟨Ao14, co14, eo14⟩ := Kd.R_slice HO1220.out
  (first | subst eo14 | (injection eo14 with f1_ f2_ f3_; have f4_ := f1_.symm; have f5_ := f3_.symm; clear f1_ f2_ f3_; subst f4_; subst f5_))
  refine hK.out _ _ ⟨(bc BK1212 0), (bc BK1212 1)⟩ (fun hHeld => ?_)
  clear hK K
  refine nz_ 10 ?_
  refine one_ (i := 4) (N := some 11) #[true, true, true, true, true, false] rfl rfl (by kernel_rfl) (by decide) (fun K hK => ?_)
  refine gg_ Try.func121 #[.agg #[.int .i64 t1217, .slice Ao14 t1218.length co14]] ?_
  with_reducible refine (impl_Net_parts.calls k t1217 _ _ t1218 t1221 _ ?side1 ?side2 A6.out).mono ?_
  (case side1 => exact (Kd.R_reads' (onR HO1220)).2.2)
  (case side2 => exact (Kd.R_reads' HO1220.out).2.1)
  rintro e w15 ⟨v1222, rfl, ho0, hb⟩
  refine ⟨_, rfl, ?_⟩
  replace HO1216 := am (Kd.R_below (onR HO1216) hb)
  replace HO1220 := am (Kd.R_below (onR HO1220) hb)
  have HO1223 := am (Kd.R_lower ho0 (below_size (bn HB)))
  replace BK1212 := bb BK1212 hb
  replace HB := bs HB hb
  (try clear hb)
  (try clear hb2)
  (try clear hk)
  (try clear hi)
  (try clear ho0)
  refine hK.out _ _ ⟨(bc BK1212 0), (bc BK1212 1)⟩ (fun hHeld => ?_)
  clear hK K
  refine nz_ 11 ?_
  refine pure_ (i := 5) (N := some 2) (v := ?_) (a' := ?_) #[true, true, true, true, true, true] rfl rfl (by kernel_rfl) (fun _ _ _ h => h) (Or.inl ⟨by rfl, ?_⟩) ?_ ?_; rotate_left; (intro w'; go_simp; with_reducible rfl); rotate_left; (simp only [Act.put, List.setIfInBounds_toArray, List.set_cons_zero, List.set_cons_succ, i64_w, i32_w]; rfl)
  refine done_ (by kernel_rfl) ?_
  try go_wp2
  go_ret
  exact ⟨_, by first | rfl | (simp [errW_none, errW_some] <;> rfl) | (simp [*, errW_none, errW_some] <;> rfl), onR HO1223, bn HB⟩
 ·replace c3 := Bool.eq_false_iff.mpr c3
  subst c3
  rw [if_neg (show ¬ (false = true) by decide)] at H
  obtain ⟨y1224, hy1224⟩ : ∃ y_ : List Int, y_ = (([] : List Int)) := ⟨_, rfl⟩
  replace H : (some y1224) = some r := nh_ hy1224 H
  have Ny1224 := am hy1224
  clear hy1224
  obtain rfl := Option.some.inj H
  go_enter Try.func74, Try.ntmps74
  go_wp2_with (first | ((with_reducible refine gate_dst (N := 1) rfl ?_); refine be_ 1 #[.int .i64 a0_0, .slice A0_1 l0_1.length c0_1] 34 ?_; intro gb1212 hg w16 hbox hb; have BK1212 := am hbox; have GW1212 := am (ge_ hg HB); have GE1212 := am (ge_ hg HB); replace HB := bs HB hb; clear hb hbox hg; obtain ⟨hcz17_0, hcz17_1, hfz17_0, hfz17_1⟩ := c2 BK1212) | ((with_reducible refine gate_callee (f := 91) rfl ?_); refine gl_ (some 4) Try.func91 #[.agg #[.int .i64 a0_0, .slice A0_1 l0_1.length c0_1]] ?_; (with_reducible refine (impl_NetOk.calls k a0_0 _ _ l0_1 false _ ?side1 ?side2 A2.out).mono ?_); (case side1 => exact cb HR0_1 HB); (case side2 => exact HC0_1.out); rintro e w18 ⟨rfl, hb⟩; refine ⟨_, rfl, ?_⟩; replace BK1212 := bb BK1212 hb; replace HB := bs HB hb; (try clear hb); (try clear hi)) | ((with_reducible refine gate_dst (N := 6) rfl ?_); refine Kd.R_lit (Kd.int .i64) _ 3 ?hg (N := 6) ?hd (xs := ([] : List Int)) (inner := []) (ok := fun _ => True) (okp := fun _ => True) ?hr ?hp (fun _ hk => hk) trivial (Below.refl _ _) (Nat.le_refl _) (by simp) ?_; (case hd => rfl); (case hg => rfl); (case hr => first | (go_simp; done) | (go_simp; rfl)); (case hp => exact (Reps.none _ _)); intro v1225 w19 ho20 hb hg_ hnew_; clear hg_ hnew_; (first | rw [← Ny1224.out] at ho20 | (simp only [Int.reduceToNat] at ho20; rw [← Ny1224.out] at ho20)); have HO1226 := am (Kd.R_lower ho20 (below_size (bn HB))); replace BK1212 := bb BK1212 hb; replace HB := bs HB hb; clear hb ho20))
  go_ret
  exact ⟨_, by first | rfl | (simp [errW_none, errW_some] <;> rfl) | (simp [*, errW_none, errW_some] <;> rfl), onR HO1226, bn HB⟩

/-! ### spec_BridgeParts: function 75 -/
def spec_BridgeParts.l0 : Nat → List (S73) → Int → Int → List (S73) → Option (List Int)
 | 0, _, _, _, _ => none
 | k + 1, x4, x5, x1258000, x1258001 => if x5 < (x4.length : Int) then (if 0 ≤ x5 then ((spec_NetCut.f k x1258000 x1258001 ((rd_T73 x4 x5).f0) ((rd_T73 x4 x5).f1)).bind fun bt1263 => (spec_BridgeParts.l0 k x4 (wrap64 (x5 + 1)) bt1263.1 bt1263.2.1)) else (none)) else ((spec_WayParts.f k x1258000 x1258001).bind fun t1268 => (some t1268))
def spec_BridgeParts.f (k : Nat) (a0_0 : Int) (l0_1 : List (S73)) : Option (List Int) := (spec_NetOk.f k a0_0 l0_1).bind fun t1249 => (if t1249 = true then ((spec_l1Copy.f a0_0 l0_1).bind fun bt1253 => ((spec_BridgeList.f k a0_0 l0_1).bind fun t1258 => (spec_BridgeParts.l0 k t1258 0 bt1253.1 bt1253.2))) else (some (([] : List Int))))
theorem spec_BridgeParts.mono_l : ∀ k, (∀ y0 y1 y2 y3, LeO (spec_BridgeParts.l0 k y0 y1 y2 y3) (spec_BridgeParts.l0 (k + 1) y0 y1 y2 y3))
 | 0 => fun _ _ _ _ r h => by simp [spec_BridgeParts.l0] at h
 | k + 1 => by
  have ih0 := spec_BridgeParts.mono_l k
  ·intro y0 y1 y2 y3
   unfold spec_BridgeParts.l0
   have m0_ := @spec_BridgeList.mono
   have m1_ := @spec_NetCut.mono
   have m2_ := @spec_NetOk.mono
   have m3_ := @spec_WayParts.mono
   exact mo_
theorem spec_BridgeParts.mono : ∀ a0 a1 k, LeO (spec_BridgeParts.f k a0 a1) (spec_BridgeParts.f (k + 1) a0 a1) := by
 intro a0 a1 k
 have ih0 := spec_BridgeParts.mono_l k
 unfold spec_BridgeParts.f
 have m0_ := @spec_BridgeList.mono
 have m1_ := @spec_NetCut.mono
 have m2_ := @spec_NetOk.mono
 have m3_ := @spec_WayParts.mono
 exact mo_
def spec_BridgeParts.T8 : Bool × List (List Nat × List Nat) := (true, [([], []), ([], []), ([], []), ([1, 2], [1, 2]), ([3], [3]), ([4], [4]), ([], []), ([], []), ([6, 7], [6, 7]), ([8], [8]), ([9], [9]), ([0, 5, 10], [0, 5, 10]), ([11], [11]), ([12], [12]), ([12], [12]), ([13, 11, 0, 1, 2, 3, 4, 5, 6, 7, 8, 9, 10, 11, 12, 13], [13])])
def spec_BridgeParts.B8 : List Nat := [0, 0, 0, 6, 14, 30, 0, 0, 192, 448, 960, 2047, 4095, 8191, 8191, 16383]
theorem spec_BridgeParts.tab8 : rtab .any (opsOf Try.f75 8) = spec_BridgeParts.T8 := by kernel_rfl
theorem spec_BridgeParts.bits8 : waitsOk spec_BridgeParts.T8.2 spec_BridgeParts.B8 = true := by kernel_rfl
set_option maxHeartbeats 8000000 in
set_option maxRecDepth 100000 in
theorem spec_BridgeParts.calls (k : Nat) (a0_0 : Int) (A0_1 : Option Addr) (c0_1 : Nat) (l0_1 : List (S73)) (r : List Int) (w : World) (hr0_1 : Kd.C k73 w A0_1 l0_1.length l0_1) (hc0_1 : l0_1.length ≤ c0_1) (h : spec_BridgeParts.f k a0_0 l0_1 = some r) :
  Calls Try.prog 75 #[.agg #[.int .i64 a0_0, .slice A0_1 l0_1.length c0_1]] w fun e w' => ∃ v0_ : Value, e = .returned (v0_) ∧ Kd.R (Kd.int .i64) 3 w' w.heap.size (fun _ => True) v0_ r ∧ Below w.heap.size w w' := by
 have hu34 := Try.underlying34
 have HR0_1 := am hr0_1
 have HC0_1 := am hc0_1
 clear hr0_1 hc0_1
 have HB := am (Below.refl w.heap.size w)
 have H : ((spec_NetOk.f k a0_0 l0_1).bind fun t1249 => (if t1249 = true then ((spec_l1Copy.f a0_0 l0_1).bind fun bt1253 => ((spec_BridgeList.f k a0_0 l0_1).bind fun t1258 => (spec_BridgeParts.l0 k t1258 0 bt1253.1 bt1253.2))) else (some (([] : List Int))))) = some r := h
 clear h
 replace H := Option.bind_eq_some_iff.mp H
 obtain ⟨t1249, A20, H⟩ := H
 (try dsimp only at H)
 have A2 := am A20
 clear A20
 by_cases c3 : t1249 = true
 ·subst c3
  rw [if_pos rfl] at H
  replace H := Option.bind_eq_some_iff.mp H
  obtain ⟨⟨t1253, t1254⟩, A40, H⟩ := H
  (try dsimp only at H)
  have A4 := am A40
  clear A40
  replace H := Option.bind_eq_some_iff.mp H
  obtain ⟨t1258, A50, H⟩ := H
  (try dsimp only at H)
  have A5 := am A50
  clear A50
  have H' := am H
  clear H
  go_enter Try.func75, Try.ntmps75
  go_wp2_with (first | ((with_reducible refine gate_dst (N := 1) rfl ?_); refine be_ 1 #[.int .i64 a0_0, .slice A0_1 l0_1.length c0_1] 34 ?_; intro gb1248 hg w6 hbox hb; have BK1248 := am hbox; have GW1248 := am (ge_ hg HB); have GE1248 := am (ge_ hg HB); replace HB := bs HB hb; clear hb hbox hg; obtain ⟨hcz7_0, hcz7_1, hfz7_0, hfz7_1⟩ := c2 BK1248) | ((with_reducible refine gate_callee (f := 66) rfl ?_); refine gl_ (some 7) Try.func66 #[.agg #[.int .i64 a0_0, .slice A0_1 l0_1.length c0_1]] ?_; (with_reducible refine (spec_NetOk.calls k a0_0 _ _ l0_1 true _ ?side1 ?side2 A2.out).mono ?_); (case side1 => exact cb HR0_1 HB); (case side2 => exact HC0_1.out); rintro e w8 ⟨rfl, hb⟩; refine ⟨_, rfl, ?_⟩; replace BK1248 := bb BK1248 hb; replace HB := bs HB hb; (try clear hb); obtain ⟨hcz9_0, hcz9_1, hfz9_0, hfz9_1⟩ := c2 BK1248) | ((with_reducible refine gate_callee (f := 102) rfl ?_); refine gl_ (some 11) Try.func102 #[.agg #[.int .i64 a0_0, .slice A0_1 l0_1.length c0_1]] ?_; (with_reducible refine (spec_l1Copy.calls a0_0 _ _ l0_1 t1253 t1254 _ ?side1 ?side2 A4.out).mono ?_); (case side1 => exact cb HR0_1 HB); (case side2 => exact HC0_1.out); rintro e w10 ⟨v1255, rfl, ho0, hb⟩; refine ⟨_, rfl, ?_⟩; have HO1256 := am (Kd.R_lower ho0 (below_size (bn HB))); replace BK1248 := bb BK1248 hb; replace HB := bs HB hb; (try clear hb); (try clear ho0)) | ((with_reducible refine gate_dst (N := 3) rfl ?_); refine be_ 3 #[.int .i64 0, .slice none 0 0] 34 ?_; intro gb1257 hg w11 hbox hb; replace HO1256 := am (Kd.R_below (onR HO1256) hb); have BK1257 := am hbox; have GW1257 := am (ge_ hg HB); have GE1257 := am (ge_ hg HB); replace HB := bs HB hb; obtain ⟨NB1248_1257, NB1257_1248⟩ := nb_ hg BK1248; replace BK1248 := bb BK1248 hb; clear hb hbox hg; obtain ⟨hnb12, hnc12⟩ := n2 NB1257_1248 NB1248_1257; obtain ⟨hcz13_0, hcz13_1, hfz13_0, hfz13_1⟩ := c2 BK1257; obtain ⟨Ao14, co14, eo14⟩ := Kd.R_slice HO1256.out; subst eo14; obtain ⟨hcz15_0, hcz15_1, hfz15_0, hfz15_1⟩ := c2 BK1248) | ((with_reducible refine gate_callee (f := 123) rfl ?_); refine gl_ (some 13) Try.func123 #[.agg #[.int .i64 a0_0, .slice A0_1 l0_1.length c0_1]] ?_; (with_reducible refine (spec_BridgeList.calls k a0_0 _ _ l0_1 t1258 _ ?side1 ?side2 A5.out).mono ?_); (case side1 => exact Kd.C_below HR0_1.out (bn HB)); (case side2 => exact HC0_1.out); rintro e w16 ⟨v1259, rfl, ho0, hb⟩; refine ⟨_, rfl, ?_⟩; have HO1260 := am (Kd.R_lower (Kd.R_new' ho0 (Kd.R_lt (by (with_reducible repeat (first | apply Kd.R_alloc | apply Kd.R_drewN | apply Kd.R_drew)); exact (Kd.R_mono (Kd.R_far (p := ⟨gb1257, 1, none⟩) (Kd.R_far (p := ⟨gb1257, 0, none⟩) (Kd.R_types HO1256.out BK1257.out (by decide)) (fun _ hk => hk.2) (.int .i64 t1253)) (fun _ hk => hk.2) (.slice Ao14 t1254.length co14)) (fun _ h_ => h_.1))))) (below_size (bn HB))); replace HO1256 := am (Kd.R_elder' (by (with_reducible repeat (first | apply Kd.R_alloc | apply Kd.R_drewN | apply Kd.R_drew)); exact (Kd.R_mono (Kd.R_far (p := ⟨gb1257, 1, none⟩) (Kd.R_far (p := ⟨gb1257, 0, none⟩) (Kd.R_types HO1256.out BK1257.out (by decide)) (fun _ hk => hk.2) (.int .i64 t1253)) (fun _ hk => hk.2) (.slice Ao14 t1254.length co14)) (fun _ h_ => h_.1))) (Kd.R_base ho0) hb); replace BK1248 := bb BK1248 hb; replace BK1257 := am (blk_below (g := gb1257) (o := .cells #[.int .i64 t1253, .slice Ao14 t1254.length co14] 34 (0, 0)) (by (with_reducible repeat (first | refine blk_drewN ?_ _ | refine blk_drew ?_ | refine blk_alloc ?_ _)); refine blk_put (cs := #[.int .i64 t1253, .slice none 0 0]) ?_ 1 _ rfl; (with_reducible repeat (first | refine blk_drewN ?_ _ | refine blk_drew ?_ | refine blk_alloc ?_ _)); refine blk_put (cs := #[.int .i64 0, .slice none 0 0]) ?_ 0 _ rfl; (with_reducible repeat (first | refine blk_drewN ?_ _ | refine blk_drew ?_ | refine blk_alloc ?_ _)); exact BK1257.out) hb); replace HB := bs HB hb; (try clear hb); (try clear ho0)))
  go_loopg [5] k (fun kq v5 w' => ∃ (x5_1 : Int) (x1258000_1 : Int) (x1258001_1 : List (S73)) (u1258001 : Value), v5 = .int .i64 x5_1 ∧ Aside0 (spec_BridgeParts.l0 kq t1258 x5_1 x1258000_1 x1258001_1 = some r) ∧ Aside0 (kq ≤ k) ∧ Aside0 (Kd.R k73 73 w' w.heap.size (fun k_ => some k_ ≠ (u1258001 : Value).ownBlock) v1259 t1258) ∧ Aside0 (Kd.R k73 73 w' w.heap.size (fun k_ => some k_ ≠ (v1259 : Value).ownBlock) u1258001 x1258001_1) ∧ Aside0 (w'.heap[gb1248]? = some (.cells #[.int .i64 a0_0, (.slice A0_1 l0_1.length c0_1)] 34 (0, 0))) ∧ Aside0 (w'.heap[gb1257]? = some (.cells #[.int .i64 x1258000_1, u1258001] 34 (0, 0))) ∧ Aside0 (Below w.heap.size w w'))
  case atStart => exact ⟨(0), (t1253), (t1254), (.slice Ao14 t1254.length co14), (by first | rfl | (simp; done) | (simp [*]; done)), H', ⟨Nat.le_refl _⟩, ⟨by (with_reducible repeat (first | apply Kd.R_alloc | apply Kd.R_drewN | apply Kd.R_drew)); exact Kd.R_mono HO1260.out (fun _ hk => hk.2)⟩, ⟨by (with_reducible repeat (first | apply Kd.R_alloc | apply Kd.R_drewN | apply Kd.R_drew)); exact Kd.R_mono HO1256.out (fun _ hk => hk.2)⟩, ⟨bkn BK1248⟩, ⟨bkn BK1257⟩, ⟨bn HB⟩⟩
  case round =>
   clear H'
   try clear c1
   try clear p2
   try clear c3
   try clear c6
   try clear c7
   try clear c10
   try clear c12
   try clear hcz13_0 hcz13_1 hfz13_0 hfz13_1
   try clear hcz15_0 hcz15_1 hfz15_0 hfz15_1
   try clear hcz7_0 hcz7_1 hfz7_0 hfz7_1
   try clear hcz9_0 hcz9_1 hfz9_0 hfz9_1
   obtain ⟨x5_1, x1258000_1, x1258001_1, u1258001, rfl, HA, HK1, HO_4, HO_1258001, BK1248, BK1257, HB⟩ := hrel
   cases gk with
   | zero => exact absurd HA.out (by simp [spec_BridgeParts.l0])
   | succ k1 =>
    have H := HA.out
    clear HA
    simp only [spec_BridgeParts.l0] at H
    by_cases c17 : x5_1 < (t1258.length : Int)
    ·rw [if_pos c17] at H
     have c17b0 := decide_eq_true c17
     clear c17
     obtain ⟨c18, H⟩ := ig_ H
     have c18b0 := decide_eq_true c18
     clear c18
     replace H := Option.bind_eq_some_iff.mp H
     obtain ⟨⟨t1263, t1264, t1267⟩, A190, H⟩ := H
     (try dsimp only at H)
     have A19 := am A190
     clear A190
     have H' := am H
     clear H
     obtain ⟨Ao20, co20, eo20⟩ := Kd.R_slice HO_4.out
     subst eo20
     try go_wp2
     replace HO_4 := am (Kd.R_drew HO_4.out)
     replace HO_1258001 := am (Kd.R_drew HO_1258001.out)
     replace BK1248 := am (blk_drew BK1248.out)
     replace BK1257 := am (blk_drew BK1257.out)
     replace HB := am (below_drew1 HB.out)
     have p1261 : 0 ≤ (x5_1 : Int) := oa
     have q1261 : x5_1 < (t1258.length : Int) := oa
     obtain ⟨ad1261, e1261, hx1261_0, hx1261_1⟩ := at_T73 (Kd.R_reads' HO_4.out).2.2 x5_1 p1261 q1261
     cases e1261
     replace p1261 := eq_true p1261
     replace q1261 := eq_true q1261
     have p1262 : 0 ≤ (x5_1 : Int) := oa
     have q1262 : x5_1 < (t1258.length : Int) := oa
     obtain ⟨ad1262, e1262, hx1262_0, hx1262_1⟩ := at_T73 (Kd.R_reads' HO_4.out).2.2 x5_1 p1262 q1262
     obtain rfl : ad1261 = ad1262 := (by injection e1262)
     replace p1262 := eq_true p1262
     replace q1262 := eq_true q1262
     obtain ⟨Ao22, co22, eo22⟩ := Kd.R_slice HO_1258001.out
     (first | subst eo22 | (injection eo22 with f1_ f2_ f3_; have f4_ := f1_.symm; have f5_ := f3_.symm; clear f1_ f2_ f3_; subst f4_; subst f5_))
     refine start_ (n := 16) (S := fun w' => w'.cell? ⟨gb1257, 0, none⟩ = some (.int .i64 x1258000_1) ∧ w'.cell? ⟨gb1257, 1, none⟩ = some (.slice Ao22 x1258001_1.length co22) ∧ w'.cell? (ad1261.add ((x5_1).toNat * 2)) = some (.int .i64 ((rd_T73 t1258 x5_1).f0)) ∧ w'.cell? ⟨(ad1261.add ((x5_1).toNat * 2)).block, (ad1261.add ((x5_1).toNat * 2)).off + 1, none⟩ = some (.int .i64 ((rd_T73 t1258 x5_1).f1)) ∧ w'.cell? (ad1261.add ((x5_1).toNat * 2)) = some (.int .i64 ((rd_T73 t1258 x5_1).f0)) ∧ w'.cell? ⟨(ad1261.add ((x5_1).toNat * 2)).block, (ad1261.add ((x5_1).toNat * 2)).off + 1, none⟩ = some (.int .i64 ((rd_T73 t1258 x5_1).f1))) (ds := [15]) #[false, false, false, false, false, false, false, false, false, false, false, false, false, false, false, false] (by kernel_rfl) rfl rfl ⟨(bc BK1257 0), (bc BK1257 1), hx1261_0, hx1261_1, hx1262_0, hx1262_1⟩ (fun hHeld => ?_); refine with_tabW spec_BridgeParts.tab8 spec_BridgeParts.bits8 (fun HT_ HW_ => ?_)
     generalize wr.drew = w21 at HO_4 HO_1258001 BK1248 BK1257 HB hx1261_0 hx1261_1 hx1262_0 hx1262_1 hHeld ⊢
     refine pz_ 1 (some 22) HT_ ?_
     refine pz_ 2 (some 23) HT_ ?_
     refine pz_ 3 (some 24) HT_ ?_
     refine pz_ 4 (some 25) HT_ ?_
     refine pz_ 6 (some 27) HT_ ?_
     refine pz_ 7 (some 28) HT_ ?_
     refine pz_ 8 (some 29) HT_ ?_
     refine pz_ 9 (some 30) HT_ ?_
     refine tz_ 0 (some 21) HT_ HW_ hHeld ?_
     refine tz_ 5 (some 26) HT_ HW_ hHeld ?_
     refine tz_ 10 (some 31) HT_ HW_ hHeld ?_
     refine one_ (i := 11) (N := some 32) #[true, true, true, true, true, true, true, true, true, true, true, true, false, false, false, false] rfl rfl (one_of HT_.out (by kernel_rfl)) (by decide) (fun K hK => ?_)
     refine gg_ Try.func103 #[.agg #[.int .i64 x1258000_1, .slice Ao22 x1258001_1.length co22], .int .i64 ((rd_T73 t1258 x5_1).f0), .int .i64 ((rd_T73 t1258 x5_1).f1)] ?_
     with_reducible refine (spec_NetCut.calls k1 x1258000_1 _ _ x1258001_1 ((rd_T73 t1258 x5_1).f0) ((rd_T73 t1258 x5_1).f1) t1263 t1264 t1267 _ ?side1 ?side2 A19.out).mono ?_
     (case side1 => exact (Kd.R_reads' (onR HO_1258001)).2.2)
     (case side2 => exact (Kd.R_reads' HO_1258001.out).2.1)
     rintro e w23 ⟨v1265, rfl, ho0, hb⟩
     have HS2_ := (hb.cell (World.block_lt_of_cell? _ _ (hHeld.2.2.1))).trans (hHeld.2.2.1)
     have HS3_ := (hb.cell (World.block_lt_of_cell? _ _ (hHeld.2.2.2.1))).trans (hHeld.2.2.2.1)
     have HS4_ := (hb.cell (World.block_lt_of_cell? _ _ (hHeld.2.2.2.2.1))).trans (hHeld.2.2.2.2.1)
     have HS5_ := (hb.cell (World.block_lt_of_cell? _ _ (hHeld.2.2.2.2.2))).trans (hHeld.2.2.2.2.2)
     refine ⟨_, rfl, ?_⟩
     have HO1266 := am (Kd.R_lower (Kd.R_new' (Kd.R_new' ho0 (Kd.R_lt (onR HO_4))) (Kd.R_lt (onR HO_1258001))) (below_size (bn HB)))
     replace HO_4 := am (Kd.R_elder' (onR HO_4) (Kd.R_base ho0) hb)
     replace HO_1258001 := am (Kd.R_elder' (onR HO_1258001) (Kd.R_base ho0) hb)
     replace BK1248 := bb BK1248 hb
     replace BK1257 := bb BK1257 hb
     replace HB := bs HB hb
     (try clear hb)
     (try clear hb2)
     (try clear hk)
     (try clear hi)
     (try clear ho0)
     obtain ⟨Ao25, co25, eo25⟩ := Kd.R_slice HO1266.out
     (first | subst eo25 | (injection eo25 with f1_ f2_ f3_; have f4_ := f1_.symm; have f5_ := f3_.symm; clear f1_ f2_ f3_; subst f4_; subst f5_))
     refine hK.out _ _ ⟨(bc BK1257 0), (bc BK1257 1), HS2_, HS3_, HS4_, HS5_⟩ (fun hHeld => ?_)
     clear hK K
     refine nz_ 32 ?_
     refine pz_ 12 (some 20) HT_ ?_
     refine pz_ 13 (some 33) HT_ ?_
     refine pz_ 14 (some 34) HT_ ?_
     refine last_ (i := 15) (N := none) #[true, true, true, true, true, true, true, true, true, true, true, true, true, true, true, true] rfl rfl (one_of HT_.out (by kernel_rfl)) (by decide) (fun K hK => ?_)
     have hs24 := bc BK1257 0
     have hfs24 := blk_frozen BK1257.out 0
     have hns24_0 := NB1248_1257.out
     have hms24_0 := NB1257_1248.out
     have hs26 := bc BK1257 1
     have hfs26 := blk_frozen BK1257.out 1
     have hns26_0 := NB1248_1257.out
     have hms26_0 := NB1257_1248.out
     refine skip_ (w1 := ?_) (by rfl) rfl ?_ ?_
     rotate_left
     ·go_simp
      rfl
     refine hK.out _ _ ?_
     clear hK K
     refine done_ (done_of HT_.out (by kernel_rfl)) ?_
     try go_wp2
     go_roundg k1
     case measure => have := HK1.out; omega
     case rel => exact ⟨(wrap64 (x5_1 + 1)), (t1263), (t1264), (.slice Ao25 t1264.length co25), (by first | rfl | (simp; done) | (simp [*]; done)), H', ⟨by have := HK1.out; omega⟩, ⟨by (with_reducible repeat (first | apply Kd.R_alloc | apply Kd.R_drewN | apply Kd.R_drew)); exact Kd.R_mono (Kd.R_far (p := ⟨gb1257, 1, none⟩) (Kd.R_far (p := ⟨gb1257, 0, none⟩) (Kd.R_types HO_4.out BK1257.out (by decide)) (fun _ hk => hk.2) (.int .i64 t1263)) (fun _ hk => hk.2) (.slice Ao25 t1264.length co25)) (fun _ hk => hk.1.2)⟩, ⟨by (with_reducible repeat (first | apply Kd.R_alloc | apply Kd.R_drewN | apply Kd.R_drew)); exact Kd.R_mono (Kd.R_far (p := ⟨gb1257, 1, none⟩) (Kd.R_far (p := ⟨gb1257, 0, none⟩) (Kd.R_types HO1266.out BK1257.out (by decide)) (fun _ hk => hk.2) (.int .i64 t1263)) (fun _ hk => hk.2) (.slice Ao25 t1264.length co25)) (fun _ hk => hk.1.1.2)⟩, ⟨bkn BK1248⟩, ⟨by (with_reducible repeat (first | refine blk_drewN ?_ _ | refine blk_drew ?_ | refine blk_alloc ?_ _)); refine blk_put (cs := #[.int .i64 t1263, .slice Ao22 x1258001_1.length co22]) ?_ 1 _ rfl; (with_reducible repeat (first | refine blk_drewN ?_ _ | refine blk_drew ?_ | refine blk_alloc ?_ _)); refine blk_put (cs := #[.int .i64 x1258000_1, .slice Ao22 x1258001_1.length co22]) ?_ 0 _ rfl; (with_reducible repeat (first | refine blk_drewN ?_ _ | refine blk_drew ?_ | refine blk_alloc ?_ _)); exact BK1257.out⟩, ⟨bn HB⟩⟩
    ·rw [if_neg c17] at H
     have c17b0 := decide_eq_false c17
     clear c17
     replace H := Option.bind_eq_some_iff.mp H
     obtain ⟨t1268, A270, H⟩ := H
     (try dsimp only at H)
     have A27 := am A270
     clear A270
     obtain rfl := Option.some.inj H
     obtain ⟨Ao28, co28, eo28⟩ := Kd.R_slice HO_4.out
     subst eo28
     obtain ⟨hnb29, hnc29⟩ := n2 NB1257_1248 NB1248_1257
     obtain ⟨hcz30_0, hcz30_1, hfz30_0, hfz30_1⟩ := c2 BK1257
     obtain ⟨Ao31, co31, eo31⟩ := Kd.R_slice HO_1258001.out
     subst eo31
     go_wp2_with (first | ((with_reducible refine gate_callee (f := 124) rfl ?_); refine gl_ (some 36) Try.func124 #[.agg #[.int .i64 x1258000_1, .slice Ao31 x1258001_1.length co31]] ?_; (with_reducible refine (spec_WayParts.calls k1 x1258000_1 _ _ x1258001_1 t1268 _ ?side1 ?side2 A27.out).mono ?_); (case side1 => exact (Kd.R_reads' (onR HO_1258001)).2.2); (case side2 => exact (Kd.R_reads' HO_1258001.out).2.1); rintro e w32 ⟨v1269, rfl, ho0, hb⟩; refine ⟨_, rfl, ?_⟩; replace HO_4 := am (Kd.R_below (onR HO_4) hb); replace HO_1258001 := am (Kd.R_below (onR HO_1258001) hb); have HO1270 := am (Kd.R_lower ho0 (below_size (bn HB))); replace BK1248 := bb BK1248 hb; replace BK1257 := bb BK1257 hb; replace HB := bs HB hb; (try clear hb); (try clear ho0)))
     go_ret
     exact ⟨_, by first | rfl | (simp [errW_none, errW_some] <;> rfl) | (simp [*, errW_none, errW_some] <;> rfl), onR HO1270, bn HB⟩
 ·replace c3 := Bool.eq_false_iff.mpr c3
  subst c3
  rw [if_neg (show ¬ (false = true) by decide)] at H
  obtain ⟨y1250, hy1250⟩ : ∃ y_ : List Int, y_ = (([] : List Int)) := ⟨_, rfl⟩
  replace H : (some y1250) = some r := nh_ hy1250 H
  have Ny1250 := am hy1250
  clear hy1250
  obtain rfl := Option.some.inj H
  go_enter Try.func75, Try.ntmps75
  go_wp2_with (first | ((with_reducible refine gate_dst (N := 1) rfl ?_); refine be_ 1 #[.int .i64 a0_0, .slice A0_1 l0_1.length c0_1] 34 ?_; intro gb1248 hg w33 hbox hb; have BK1248 := am hbox; have GW1248 := am (ge_ hg HB); have GE1248 := am (ge_ hg HB); replace HB := bs HB hb; clear hb hbox hg; obtain ⟨hcz34_0, hcz34_1, hfz34_0, hfz34_1⟩ := c2 BK1248) | ((with_reducible refine gate_callee (f := 66) rfl ?_); refine gl_ (some 7) Try.func66 #[.agg #[.int .i64 a0_0, .slice A0_1 l0_1.length c0_1]] ?_; (with_reducible refine (spec_NetOk.calls k a0_0 _ _ l0_1 false _ ?side1 ?side2 A2.out).mono ?_); (case side1 => exact cb HR0_1 HB); (case side2 => exact HC0_1.out); rintro e w35 ⟨rfl, hb⟩; refine ⟨_, rfl, ?_⟩; replace BK1248 := bb BK1248 hb; replace HB := bs HB hb; (try clear hb); (try clear hi)) | ((with_reducible refine gate_dst (N := 9) rfl ?_); refine Kd.R_lit (Kd.int .i64) _ 3 ?hg (N := 9) ?hd (xs := ([] : List Int)) (inner := []) (ok := fun _ => True) (okp := fun _ => True) ?hr ?hp (fun _ hk => hk) trivial (Below.refl _ _) (Nat.le_refl _) (by simp) ?_; (case hd => rfl); (case hg => rfl); (case hr => first | (go_simp; done) | (go_simp; rfl)); (case hp => exact (Reps.none _ _)); intro v1251 w36 ho37 hb hg_ hnew_; clear hg_ hnew_; (first | rw [← Ny1250.out] at ho37 | (simp only [Int.reduceToNat] at ho37; rw [← Ny1250.out] at ho37)); have HO1252 := am (Kd.R_lower ho37 (below_size (bn HB))); replace BK1248 := bb BK1248 hb; replace HB := bs HB hb; clear hb ho37))
  go_ret
  exact ⟨_, by first | rfl | (simp [errW_none, errW_some] <;> rfl) | (simp [*, errW_none, errW_some] <;> rfl), onR HO1252, bn HB⟩

end Go.Proofs.Ytdlnnjgjfngccaa.F
