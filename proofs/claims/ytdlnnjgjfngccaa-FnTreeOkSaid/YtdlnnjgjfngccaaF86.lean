-- Written by oprint.py (wip/tools) over the kit's print program, for this seat.
import Derived.Test.YtdlnnjgjfngccaaF0
import Derived.Test.YtdlnnjgjfngccaaF35
import Derived.Test.YtdlnnjgjfngccaaF41
import Derived.Test.YtdlnnjgjfngccaaF42
import Derived.Test.YtdlnnjgjfngccaaF45
import Derived.Test.YtdlnnjgjfngccaaF85
namespace Go.Proofs.Ytdlnnjgjfngccaa.F
open Go.RowKit Go.Proofs.YtdlnnjgjfngccaaW.PrintWords Go.Proofs.YtdlnnjgjfngccaaW.PrintLast Go.Proofs.YtdlnnjgjfngccaaW.PrintMore
attribute [local go_sem] max2_int min2_int max_two min_two max_three min_three max_four min_four   -- for this text's walks alone
set_option linter.unusedVariables false
set_option linter.unusedSimpArgs false

/-! ### spec_DrawTreeOk: function 76 -/
def spec_DrawTreeOk.j0 : Nat → List (S73) → Bool → List Int → Int → Int → List (S73) → Option (Int × (List (S73)) × (List (S73)))
 | 0, _, _, _, _, _, _ => none
 | k + 1, x6, x33, x1363000, x1363001, x1369000, x1369001 => if x33 = true then ((spec_l6Rd_pick.f k x1363000 x1363001 (x6.length : Int)).bind fun bt1375 => (if 0 ≤ bt1375.1 then (if bt1375.1 < (x6.length : Int) then ((spec_l6Rd_pick.f k x1363000 bt1375.2 (x1369001.length : Int)).bind fun bt1379 => (if 0 ≤ bt1379.1 then (if bt1379.1 < (x1369001.length : Int) then ((spec_NetCut.f k x1369000 x6 ((rd_T73 x6 bt1375.1).f0) ((rd_T73 x6 bt1375.1).f1)).bind fun bt1383 => ((spec_NetAdd.f k bt1383.1 bt1383.2.1 ((rd_T73 x1369001 bt1379.1).f0) ((rd_T73 x1369001 bt1379.1).f1)).bind fun bt1388 => (if bt1388.2.2 = true then (some (x1369000, x1369001, bt1388.2.1)) else (some (x1369000, x1369001, bt1383.2.1))))) else (none)) else (none))) else (none)) else (none))) else ((spec_l6Rd_pick.f k x1363000 x1363001 8).bind fun bt1394 => (if bt1394.1 = 0 then ((spec_l6Rd_pick.f k x1363000 bt1394.2 4).bind fun bt1396 => ((spec_l6Rd_pick.f k x1363000 bt1396.2 4).bind fun bt1398 => (if x6.length < 8796093022208 then (some (x1369000, x1369001, (x6 ++ [(⟨bt1396.1, wrap64 (4 + bt1398.1)⟩ : S73)]))) else (none)))) else (if bt1394.1 = 1 then (if (x6.length : Int) > 0 then (if 1 ≤ (x6.length : Int) then (some (x1369000, x1369001, (x6.drop (1 : Int).toNat))) else (none)) else (some (x1369000, x1369001, x6))) else (some (x1369000, x1369001, x6)))))
def spec_DrawTreeOk.f (k : Nat) (l0 : List Int) : Option (Int × (List (S73)) × (List (S73))) := (spec_l6Open.f l0).bind fun bt1360 => ((spec_l71Any.f k bt1360.1 bt1360.2).bind fun bt1363 => ((spec_TreeOf.f k bt1363.1 bt1363.2.1).bind fun t1369 => ((spec_l6Rd_pick.f k bt1360.1 bt1363.2.2 3).bind fun bt1372 => (if bt1372.1 = 0 then (if (t1369.length : Int) > 0 then (spec_DrawTreeOk.j0 k t1369 (decide ((bt1363.2.1.length : Int) > (t1369.length : Int))) bt1360.1 bt1372.2 bt1363.1 bt1363.2.1) else (spec_DrawTreeOk.j0 k t1369 false bt1360.1 bt1372.2 bt1363.1 bt1363.2.1)) else (spec_DrawTreeOk.j0 k t1369 false bt1360.1 bt1372.2 bt1363.1 bt1363.2.1)))))
theorem spec_DrawTreeOk.mono_l : ∀ k, (∀ y0 y1 y2 y3 y4 y5, LeO (spec_DrawTreeOk.j0 k y0 y1 y2 y3 y4 y5) (spec_DrawTreeOk.j0 (k + 1) y0 y1 y2 y3 y4 y5))
 | 0 => fun _ _ _ _ _ _ r h => by simp [spec_DrawTreeOk.j0] at h
 | k + 1 => by
  have ih0 := spec_DrawTreeOk.mono_l k
  ·intro y0 y1 y2 y3 y4 y5
   unfold spec_DrawTreeOk.j0
   have m0_ := @spec_NetAdd.mono
   have m1_ := @spec_NetCut.mono
   have m2_ := @spec_TreeOf.mono
   have m3_ := @spec_l6Rd_pick.mono
   have m4_ := @spec_l71Any.mono
   exact mo_
theorem spec_DrawTreeOk.mono : ∀ a0 k, LeO (spec_DrawTreeOk.f k a0) (spec_DrawTreeOk.f (k + 1) a0) := by
 intro a0 k
 have ih0 := spec_DrawTreeOk.mono_l k
 unfold spec_DrawTreeOk.f
 have m0_ := @spec_NetAdd.mono
 have m1_ := @spec_NetCut.mono
 have m2_ := @spec_TreeOf.mono
 have m3_ := @spec_l6Rd_pick.mono
 have m4_ := @spec_l71Any.mono
 exact mo_
def spec_DrawTreeOk.T7 : Bool × List (List Nat × List Nat) := (true, [([], []), ([0], [0]), ([], []), ([], []), ([3], [3]), ([4], [4]), ([2, 5], [2, 5]), ([1, 6], [1, 6]), ([7], [7]), ([], []), ([9, 8, 6, 0, 1, 2, 3, 4, 5, 6, 7, 8, 9], [8, 9])])
def spec_DrawTreeOk.B7 : List Nat := [0, 1, 0, 0, 8, 24, 60, 127, 255, 0, 1023]
theorem spec_DrawTreeOk.tab7 : rtab .any (opsOf Try.f76 7) = spec_DrawTreeOk.T7 := by kernel_rfl
theorem spec_DrawTreeOk.bits7 : waitsOk spec_DrawTreeOk.T7.2 spec_DrawTreeOk.B7 = true := by kernel_rfl
set_option maxHeartbeats 8000000 in
set_option maxRecDepth 100000 in
theorem spec_DrawTreeOk.calls (k : Nat) (A0 : Option Addr) (c0 : Nat) (l0 : List Int) (r1 : Int) (r2 : List (S73)) (r3 : List (S73)) (w : World) (hr0 : Kd.C (Kd.int .u8) w A0 l0.length l0) (hc0 : l0.length ≤ c0) (h : spec_DrawTreeOk.f k l0 = some (r1, r2, r3)) :
  Calls Try.prog 76 #[.slice A0 l0.length c0] w fun e w' => ∃ v1_ v2_ : Value, e = .returned (.tuple #[.agg #[.int .i64 r1, v1_], v2_]) ∧ Kd.R k73 73 w' w.heap.size (fun k_ => some k_ ≠ (v2_ : Value).ownBlock) v1_ r2 ∧ Kd.Q k73 73 w' w.heap.size (fun k_ => some k_ ≠ (v1_ : Value).ownBlock) v2_ r3 ∧ Below w.heap.size w w' := by
 have hu34 := Try.underlying34
 have hu73 := Try.underlying73
 have HR0 := am hr0
 have HC0 := am hc0
 clear hr0 hc0
 have HB := am (Below.refl w.heap.size w)
 have H : ((spec_l6Open.f l0).bind fun bt1360 => ((spec_l71Any.f k bt1360.1 bt1360.2).bind fun bt1363 => ((spec_TreeOf.f k bt1363.1 bt1363.2.1).bind fun t1369 => ((spec_l6Rd_pick.f k bt1360.1 bt1363.2.2 3).bind fun bt1372 => (if bt1372.1 = 0 then (if (t1369.length : Int) > 0 then (spec_DrawTreeOk.j0 k t1369 (decide ((bt1363.2.1.length : Int) > (t1369.length : Int))) bt1360.1 bt1372.2 bt1363.1 bt1363.2.1) else (spec_DrawTreeOk.j0 k t1369 false bt1360.1 bt1372.2 bt1363.1 bt1363.2.1)) else (spec_DrawTreeOk.j0 k t1369 false bt1360.1 bt1372.2 bt1363.1 bt1363.2.1)))))) = some (r1, r2, r3) := h
 clear h
 replace H := Option.bind_eq_some_iff.mp H
 obtain ⟨⟨t1360, t1361⟩, A20, H⟩ := H
 (try dsimp only at H)
 have A2 := am A20
 clear A20
 replace H := Option.bind_eq_some_iff.mp H
 obtain ⟨⟨t1363, t1364, t1367⟩, A30, H⟩ := H
 (try dsimp only at H)
 have A3 := am A30
 clear A30
 replace H := Option.bind_eq_some_iff.mp H
 obtain ⟨t1369, A40, H⟩ := H
 (try dsimp only at H)
 have A4 := am A40
 clear A40
 have HC5 := am H
 clear H
 go_enter Try.func76, Try.ntmps76
 go_upto_region 4 with (first | ((with_reducible refine gate_dst (N := 2) rfl ?_); refine be_ 2 #[.int .i64 0, .slice none 0 0] 34 ?_; intro gb1359 hg w6 hbox hb; have BK1359 := am hbox; have GW1359 := am (ge_ hg HB); have GE1359 := am (ge_ hg HB); replace HB := bs HB hb; clear hb hbox hg) | ((with_reducible refine gate_callee (f := 109) rfl ?_); refine gl_ (some 13) Try.func109 #[.slice A0 l0.length c0] ?_; (with_reducible refine (spec_l6Open.calls _ _ l0 t1360 t1361 w _ ?side1 ?side2 ?side3 A2.out).mono ?_); (case side1 => exact bn HB); (case side2 => exact HR0.out); (case side3 => exact HC0.out); rintro e w7 ⟨g1362, rfl, hi, hb, hb2⟩; refine ⟨_, rfl, ?_⟩; replace HB := am hb; have HI1362 := am hi; have NB1362_1359 := am (IsS120.ne_blk hi (blk_below (bkn BK1359) hb2) (by decide)); have NB1359_1362 := am (Ne.symm (IsS120.ne_blk hi (blk_below (bkn BK1359) hb2) (by decide))); replace BK1359 := am (blk_below (bkn BK1359) hb2); (try clear hb); (try clear hb2); (try clear hi)) | ((with_reducible refine gate_callee (f := 110) rfl ?_); refine gl_ (some 15) Try.func110 #[.pointer (some ⟨g1362, 0, none⟩)] ?_; (with_reducible refine (spec_l71Any.calls k g1362 t1360 t1361 t1363 t1364 t1367 w _ ?side1 ?side2 A3.out).mono ?_); (case side1 => exact IsS120.now); (case side2 => exact bn HB); rintro e w8 ⟨v1365, rfl, ho0, hi, hb, hk⟩; refine ⟨_, rfl, ?_⟩; replace BK1359 := am (KeepBut.blk hk (bkn BK1359) NB1359_1362.out (by simp)); have HO1366 := am (Kd.R_lower ho0 (below_size (bn HB))); replace HB := am hb; replace HI1362 := am hi; (try clear hb); (try clear hk); (try clear hi); (try clear ho0)) | ((with_reducible refine gate_dst (N := 5) rfl ?_); refine be_ 5 #[.int .i64 0, .slice none 0 0] 34 ?_; intro gb1368 hg w9 hbox hb; replace HO1366 := am (Kd.R_below (onR HO1366) hb); have BK1368 := am hbox; have GW1368 := am (ge_ hg HB); have GE1368 := am (ge_ hg HB); replace HB := bs HB hb; obtain ⟨NB1359_1368, NB1368_1359⟩ := nb_ hg BK1359; replace BK1359 := bb BK1359 hb; have NB1362_1368 := am ((by rw [hg]; exact Nat.ne_of_lt (IsS120.lt (show IsS120 w _ g1362 t1360 t1367 from IsS120.now)) : g1362 ≠ gb1368)); have NB1368_1362 := am ((by rw [hg]; exact Nat.ne_of_gt (IsS120.lt (show IsS120 w _ g1362 t1360 t1367 from IsS120.now)) : gb1368 ≠ g1362)); replace HI1362 := am (IsS120.below (IsS120.now) hb); clear hb hbox hg; obtain ⟨hnb10, hnc10⟩ := n2 NB1368_1359 NB1359_1368; obtain ⟨hnb11, hnc11⟩ := n2 NB1368_1362 NB1362_1368; obtain ⟨hcz12_0, hcz12_1, hfz12_0, hfz12_1⟩ := c2 BK1368; obtain ⟨Ao13, co13, eo13⟩ := Kd.R_slice HO1366.out; subst eo13) | ((with_reducible refine gate_callee (f := 125) rfl ?_); refine gl_ (some 17) Try.func125 #[.agg #[.int .i64 t1363, .slice Ao13 t1364.length co13]] ?_; (with_reducible refine (spec_TreeOf.calls k t1363 _ _ t1364 t1369 _ ?side1 ?side2 A4.out).mono ?_); (case side1 => refine (Kd.R_reads' (e := 73) (base := w.heap.size) (ok := fun k_ => True) (n := t1364.length) (c := co13) ?_).2.2; exact (by (with_reducible repeat (first | apply Kd.R_alloc | apply Kd.R_drewN | apply Kd.R_drew)); exact (Kd.R_mono (Kd.R_far (p := ⟨gb1368, 1, none⟩) (Kd.R_far (p := ⟨gb1368, 0, none⟩) (Kd.R_types HO1366.out BK1368.out (by decide)) (fun _ hk => hk.2) (.int .i64 t1363)) (fun _ hk => hk.2) (.slice Ao13 t1364.length co13)) (fun _ h_ => h_.1)))); (case side2 => exact (Kd.R_reads' HO1366.out).2.1); rintro e w14 ⟨v1370, rfl, ho0, hb⟩; refine ⟨_, rfl, ?_⟩; have HO1371 := am (Kd.R_lower (Kd.R_new' ho0 (Kd.R_lt (by (with_reducible repeat (first | apply Kd.R_alloc | apply Kd.R_drewN | apply Kd.R_drew)); exact (Kd.R_mono (Kd.R_far (p := ⟨gb1368, 1, none⟩) (Kd.R_far (p := ⟨gb1368, 0, none⟩) (Kd.R_types HO1366.out BK1368.out (by decide)) (fun _ hk => hk.2) (.int .i64 t1363)) (fun _ hk => hk.2) (.slice Ao13 t1364.length co13)) (fun _ h_ => h_.1))))) (below_size (bn HB))); replace HO1366 := am (Kd.R_elder' (by (with_reducible repeat (first | apply Kd.R_alloc | apply Kd.R_drewN | apply Kd.R_drew)); exact (Kd.R_mono (Kd.R_far (p := ⟨gb1368, 1, none⟩) (Kd.R_far (p := ⟨gb1368, 0, none⟩) (Kd.R_types HO1366.out BK1368.out (by decide)) (fun _ hk => hk.2) (.int .i64 t1363)) (fun _ hk => hk.2) (.slice Ao13 t1364.length co13)) (fun _ h_ => h_.1))) (Kd.R_base ho0) hb); replace BK1359 := bb BK1359 hb; replace HI1362 := am (IsS120.below (show IsS120 w ((w9.setCell ⟨gb1368, 0, none⟩ (.int .i64 t1363)).setCell ⟨gb1368, 1, none⟩ (.slice Ao13 t1364.length co13)) g1362 t1360 t1367 from IsS120.now) hb); replace BK1368 := am (blk_below (g := gb1368) (o := .cells #[.int .i64 t1363, .slice Ao13 t1364.length co13] 34 (0, 0)) (by (with_reducible repeat (first | refine blk_drewN ?_ _ | refine blk_drew ?_ | refine blk_alloc ?_ _)); refine blk_put (cs := #[.int .i64 t1363, .slice none 0 0]) ?_ 1 _ rfl; (with_reducible repeat (first | refine blk_drewN ?_ _ | refine blk_drew ?_ | refine blk_alloc ?_ _)); refine blk_put (cs := #[.int .i64 0, .slice none 0 0]) ?_ 0 _ rfl; (with_reducible repeat (first | refine blk_drewN ?_ _ | refine blk_drew ?_ | refine blk_alloc ?_ _)); exact BK1368.out) hb); replace HB := bs HB hb; (try clear hb); (try clear ho0)))
 (try simp only [Act.put, List.setIfInBounds_toArray, List.set_cons_zero, List.set_cons_succ])
 go_cut [33] (fun v33 wc => ∃ (kq : Nat) (x33_4 : Bool) (x1363001_4 : Int), v33 = .bool x33_4 ∧ Aside0 (spec_DrawTreeOk.j0 kq t1369 x33_4 t1360 x1363001_4 t1363 t1364 = some (r1, r2, r3)) ∧ Aside0 (kq ≤ k) ∧ Aside0 (Kd.Q k73 73 wc w.heap.size (fun k_ => some k_ ≠ ((.slice Ao13 t1364.length co13) : Value).ownBlock) v1370 t1369) ∧ Aside0 (Kd.R k73 73 wc w.heap.size (fun k_ => some k_ ≠ (v1370 : Value).ownBlock) (.slice Ao13 t1364.length co13) t1364) ∧ Aside0 (wc.heap[gb1359]? = some (.cells #[.int .i64 0, (.slice none 0 0)] 34 (0, 0))) ∧ Aside0 (wc.heap[gb1368]? = some (.cells #[.int .i64 t1363, (.slice Ao13 t1364.length co13)] 34 (0, 0))) ∧ Aside0 (IsS120 w wc g1362 t1360 x1363001_4) ∧ Aside0 (Below w.heap.size w wc))
 case first =>
  have H := HC5.out
  clear HC5
  replace H := Option.bind_eq_some_iff.mp H
  obtain ⟨⟨t1372, t1373⟩, A150, H⟩ := H
  (try dsimp only at H)
  have A15 := am A150
  clear A150
  by_cases c16 : t1372 = 0
  ·rw [if_pos c16] at H
   have c16b0 : (t1372 == 0) = true := beq_iff_eq.mpr c16
   have c16b1 : (t1372 != 0) = false := bne_eq_false_iff_eq.mpr c16
   clear c16
   (first | rw [c16b0] | (simp only [i64_w, i32_w]; rw [c16b0]) | skip)
   by_cases c17 : (t1369.length : Int) > 0
   ·rw [if_pos c17] at H
    have c17b0 := decide_eq_true c17
    have c17b1 : decide (0 < t1369.length) = true := decide_eq_true (by omega)
    clear c17
    have H' := am H
    clear H
    go_wp2_with (first | ((with_reducible refine gate_callee (f := 126) rfl ?_); refine gl_ (some 19) Try.func126 #[.pointer (some ⟨g1362, 0, none⟩), .int .i64 3] ?_; (with_reducible refine (spec_l6Rd_pick.calls k g1362 t1360 t1367 3 t1372 t1373 w _ ?side1 ?side2 A15.out).mono ?_); (case side1 => exact IsS120.now); (case side2 => exact bn HB); rintro e w18 ⟨rfl, hi, hb, hk⟩; refine ⟨_, rfl, ?_⟩; replace BK1359 := am (KeepBut.blk hk (bkn BK1359) NB1359_1362.out (by simp)); replace HO1366 := am (Kd.R_mono (Kd.R_keep (IsS120.apart (show IsS120 w _ g1362 t1360 t1367 from IsS120.now) (onR HO1366) (by decide)) hk (fun _ h => h.2)) (fun _ h => h.1)); replace BK1368 := am (KeepBut.blk hk (bkn BK1368) NB1368_1362.out (by simp)); replace HO1371 := am (Kd.R_mono (Kd.R_keep (IsS120.apart (show IsS120 w _ g1362 t1360 t1367 from IsS120.now) (onR HO1371) (by decide)) hk (fun _ h => h.2)) (fun _ h => h.1)); replace HB := am hb; replace HI1362 := am hi; (try clear hb); (try clear hk); (try clear hi); obtain ⟨Ao19, co19, eo19⟩ := Kd.R_slice HO1371.out; subst eo19; obtain ⟨hnb20, hnc20⟩ := n2 NB1368_1359 NB1359_1368; obtain ⟨hnb21, hnc21⟩ := n2 NB1368_1362 NB1362_1368; obtain ⟨hcz22_0, hcz22_1, hfz22_0, hfz22_1⟩ := c2 BK1368))
    go_meet
    case rel => exact ⟨_, (decide ((t1364.length : Int) > (t1369.length : Int))), (t1373), (by first | rfl | (simp; done) | (simp [*]; done)), H', ⟨by first | omega | exact Nat.le_refl _⟩, ⟨Kd.Q_of_R (by (with_reducible repeat (first | apply Kd.R_alloc | apply Kd.R_drewN | apply Kd.R_drew)); exact Kd.R_mono HO1371.out (fun _ hk => hk.2))⟩, ⟨by (with_reducible repeat (first | apply Kd.R_alloc | apply Kd.R_drewN | apply Kd.R_drew)); exact Kd.R_mono HO1366.out (fun _ hk => hk.2)⟩, ⟨bkn BK1359⟩, ⟨bkn BK1368⟩, ⟨IsS120.now⟩, ⟨bn HB⟩⟩
   ·rw [if_neg c17] at H
    have c17b0 := decide_eq_false c17
    have c17b1 : decide (0 < t1369.length) = false := decide_eq_false (by omega)
    clear c17
    have H' := am H
    clear H
    go_wp2_with (first | ((with_reducible refine gate_callee (f := 126) rfl ?_); refine gl_ (some 19) Try.func126 #[.pointer (some ⟨g1362, 0, none⟩), .int .i64 3] ?_; (with_reducible refine (spec_l6Rd_pick.calls k g1362 t1360 t1367 3 t1372 t1373 w _ ?side1 ?side2 A15.out).mono ?_); (case side1 => exact IsS120.now); (case side2 => exact bn HB); rintro e w23 ⟨rfl, hi, hb, hk⟩; refine ⟨_, rfl, ?_⟩; replace BK1359 := am (KeepBut.blk hk (bkn BK1359) NB1359_1362.out (by simp)); replace HO1366 := am (Kd.R_mono (Kd.R_keep (IsS120.apart (show IsS120 w _ g1362 t1360 t1367 from IsS120.now) (onR HO1366) (by decide)) hk (fun _ h => h.2)) (fun _ h => h.1)); replace BK1368 := am (KeepBut.blk hk (bkn BK1368) NB1368_1362.out (by simp)); replace HO1371 := am (Kd.R_mono (Kd.R_keep (IsS120.apart (show IsS120 w _ g1362 t1360 t1367 from IsS120.now) (onR HO1371) (by decide)) hk (fun _ h => h.2)) (fun _ h => h.1)); replace HB := am hb; replace HI1362 := am hi; (try clear hb); (try clear hk); (try clear hi); obtain ⟨Ao24, co24, eo24⟩ := Kd.R_slice HO1371.out; subst eo24))
    go_meet
    case rel => exact ⟨_, (false), (t1373), (by first | rfl | (simp; done) | (simp [*]; done)), H', ⟨by first | omega | exact Nat.le_refl _⟩, ⟨Kd.Q_of_R (by (with_reducible repeat (first | apply Kd.R_alloc | apply Kd.R_drewN | apply Kd.R_drew)); exact Kd.R_mono HO1371.out (fun _ hk => hk.2))⟩, ⟨by (with_reducible repeat (first | apply Kd.R_alloc | apply Kd.R_drewN | apply Kd.R_drew)); exact Kd.R_mono HO1366.out (fun _ hk => hk.2)⟩, ⟨bkn BK1359⟩, ⟨bkn BK1368⟩, ⟨IsS120.now⟩, ⟨bn HB⟩⟩
  ·rw [if_neg c16] at H
   have c16b0 : (t1372 == 0) = false := beq_eq_false_iff_ne.mpr c16
   have c16b1 : (t1372 != 0) = true := bne_iff_ne.mpr c16
   (first | rw [c16b0] | (simp only [i64_w, i32_w]; rw [c16b0]) | skip)
   have H' := am H
   clear H
   go_wp2_with (first | ((with_reducible refine gate_callee (f := 126) rfl ?_); refine gl_ (some 19) Try.func126 #[.pointer (some ⟨g1362, 0, none⟩), .int .i64 3] ?_; (with_reducible refine (spec_l6Rd_pick.calls k g1362 t1360 t1367 3 t1372 t1373 w _ ?side1 ?side2 A15.out).mono ?_); (case side1 => exact IsS120.now); (case side2 => exact bn HB); rintro e w25 ⟨rfl, hi, hb, hk⟩; refine ⟨_, rfl, ?_⟩; replace BK1359 := am (KeepBut.blk hk (bkn BK1359) NB1359_1362.out (by simp)); replace HO1366 := am (Kd.R_mono (Kd.R_keep (IsS120.apart (show IsS120 w _ g1362 t1360 t1367 from IsS120.now) (onR HO1366) (by decide)) hk (fun _ h => h.2)) (fun _ h => h.1)); replace BK1368 := am (KeepBut.blk hk (bkn BK1368) NB1368_1362.out (by simp)); replace HO1371 := am (Kd.R_mono (Kd.R_keep (IsS120.apart (show IsS120 w _ g1362 t1360 t1367 from IsS120.now) (onR HO1371) (by decide)) hk (fun _ h => h.2)) (fun _ h => h.1)); replace HB := am hb; replace HI1362 := am hi; (try clear hb); (try clear hk); (try clear hi)))
   go_meet
   case rel => exact ⟨_, (false), (t1373), (by first | rfl | (simp; done) | (simp [*]; done)), H', ⟨by first | omega | exact Nat.le_refl _⟩, ⟨Kd.Q_of_R (by (with_reducible repeat (first | apply Kd.R_alloc | apply Kd.R_drewN | apply Kd.R_drew)); exact Kd.R_mono HO1371.out (fun _ hk => hk.2))⟩, ⟨by (with_reducible repeat (first | apply Kd.R_alloc | apply Kd.R_drewN | apply Kd.R_drew)); exact Kd.R_mono HO1366.out (fun _ hk => hk.2)⟩, ⟨bkn BK1359⟩, ⟨bkn BK1368⟩, ⟨IsS120.now⟩, ⟨bn HB⟩⟩
 case rest =>
  clear HC5
  try clear c1
  try clear c2
  try clear p2
  try clear c7
  try clear c10
  try clear c11
  try clear c12
  try clear c16
  try clear c16b0
  try clear c16b1
  try clear c17
  try clear c17b0
  try clear c17b1
  try clear c20
  try clear c21
  try clear hcz12_0 hcz12_1 hfz12_0 hfz12_1
  try clear hcz22_0 hcz22_1 hfz22_0 hfz22_1
  obtain ⟨kq, x33_4, x1363001_4, rfl, HA, HJ4, HO_6, HO_1369001, BK1359, BK1368, HI1362, HB⟩ := hcut
  cases kq with
  | zero => exact absurd HA.out (by simp [spec_DrawTreeOk.j0])
  | succ kj4 =>
   have H := HA.out
   clear HA
   simp only [spec_DrawTreeOk.j0] at H
   by_cases c26 : x33_4 = true
   ·subst c26
    rw [if_pos rfl] at H
    replace H := Option.bind_eq_some_iff.mp H
    obtain ⟨⟨t1375, t1376⟩, A270, H⟩ := H
    (try dsimp only at H)
    have A27 := am A270
    clear A270
    obtain ⟨c28, H⟩ := ig_ H
    have c28b0 := decide_eq_true c28
    clear c28
    obtain ⟨c29, H⟩ := ig_ H
    have c29b0 := decide_eq_true c29
    clear c29
    replace H := Option.bind_eq_some_iff.mp H
    obtain ⟨⟨t1379, t1380⟩, A300, H⟩ := H
    (try dsimp only at H)
    have A30 := am A300
    clear A300
    obtain ⟨c31, H⟩ := ig_ H
    have c31b0 := decide_eq_true c31
    clear c31
    obtain ⟨c32, H⟩ := ig_ H
    have c32b0 := decide_eq_true c32
    clear c32
    replace H := Option.bind_eq_some_iff.mp H
    obtain ⟨⟨t1383, t1384, t1387⟩, A330, H⟩ := H
    (try dsimp only at H)
    have A33 := am A330
    clear A330
    replace H := Option.bind_eq_some_iff.mp H
    obtain ⟨⟨t1388, t1389, t1392⟩, A340, H⟩ := H
    (try dsimp only at H)
    have A34 := am A340
    clear A340
    by_cases c35 : t1392 = true
    ·subst c35
     rw [if_pos rfl] at H
     simp only [Option.some.injEq, Prod.mk.injEq] at H
     obtain ⟨rfl, rfl, rfl⟩ := H
     obtain ⟨hnb36, hnc36⟩ := n2 NB1368_1359 NB1359_1368
     obtain ⟨hnb37, hnc37⟩ := n2 NB1368_1362 NB1362_1368
     obtain ⟨hcz38_0, hcz38_1, hfz38_0, hfz38_1⟩ := c2 BK1368
     obtain ⟨Ao39, co39, eo39, _⟩ := Kd.Q_slice HO_6.out
     subst eo39
     try go_wp2_with (first | ((with_reducible refine gate_dst (N := 7) rfl ?_); refine be_ 7 #[.int .i64 0, .slice none 0 0] 34 ?_; intro gb1374 hg w40 hbox hb; replace HO_6 := am (Kd.Q_below (onQ HO_6) hb); replace HO_1369001 := am (Kd.R_below (onR HO_1369001) hb); have BK1374 := am hbox; have GW1374 := am (ge_ hg HB); have GE1374 := am (ge_ hg HB); replace HB := bs HB hb; obtain ⟨NB1359_1374, NB1374_1359⟩ := nb_ hg BK1359; replace BK1359 := bb BK1359 hb; obtain ⟨NB1368_1374, NB1374_1368⟩ := nb_ hg BK1368; replace BK1368 := bb BK1368 hb; have NB1362_1374 := am ((by rw [hg]; exact Nat.ne_of_lt (IsS120.lt (show IsS120 w _ g1362 t1360 x1363001_4 from IsS120.now)) : g1362 ≠ gb1374)); have NB1374_1362 := am ((by rw [hg]; exact Nat.ne_of_gt (IsS120.lt (show IsS120 w _ g1362 t1360 x1363001_4 from IsS120.now)) : gb1374 ≠ g1362)); replace HI1362 := am (IsS120.below (IsS120.now) hb); clear hb hbox hg; obtain ⟨hnb41, hnc41⟩ := n2 NB1374_1359 NB1359_1374; obtain ⟨hnb42, hnc42⟩ := n2 NB1374_1368 NB1368_1374; obtain ⟨hnb43, hnc43⟩ := n2 NB1374_1362 NB1362_1374; obtain ⟨hcz44_0, hcz44_1, hfz44_0, hfz44_1⟩ := c2 BK1374) | ((with_reducible refine gate_callee (f := 126) rfl ?_); refine gl_ (some 42) Try.func126 #[.pointer (some ⟨g1362, 0, none⟩), .int .i64 (t1369.length : Int)] ?_; (with_reducible refine (spec_l6Rd_pick.calls kj4 g1362 t1360 x1363001_4 (t1369.length : Int) t1375 t1376 w _ ?side1 ?side2 A27.out).mono ?_); (case side1 => exact IsS120.now); (case side2 => exact bn HB); rintro e w45 ⟨rfl, hi, hb, hk⟩; refine ⟨_, rfl, ?_⟩; replace HO_6 := am (Kd.Q_mono (Kd.Q_keep (IsS120.apartQ (show IsS120 w _ g1362 t1360 x1363001_4 from IsS120.now) (by (with_reducible repeat (first | apply Kd.Q_alloc | apply Kd.Q_drewN | apply Kd.Q_drew)); exact (Kd.Q_mono (Kd.Q_far (p := ⟨gb1374, 1, none⟩) (Kd.Q_far (p := ⟨gb1374, 0, none⟩) (Kd.Q_types HO_6.out BK1374.out (by decide)) (fun _ hk => hk.2) (.int .i64 t1363)) (fun _ hk => hk.2) (.slice Ao39 t1369.length co39)) (fun _ h_ => h_.1))) (by decide)) hk (fun _ h => h.2)) (fun _ h => h.1)); replace HO_1369001 := am (Kd.R_mono (Kd.R_keep (IsS120.apart (show IsS120 w _ g1362 t1360 x1363001_4 from IsS120.now) (by (with_reducible repeat (first | apply Kd.R_alloc | apply Kd.R_drewN | apply Kd.R_drew)); exact (Kd.R_mono (Kd.R_far (p := ⟨gb1374, 1, none⟩) (Kd.R_far (p := ⟨gb1374, 0, none⟩) (Kd.R_types HO_1369001.out BK1374.out (by decide)) (fun _ hk => hk.2) (.int .i64 t1363)) (fun _ hk => hk.2) (.slice Ao39 t1369.length co39)) (fun _ h_ => h_.1))) (by decide)) hk (fun _ h => h.2)) (fun _ h => h.1)); replace BK1359 := am (KeepBut.blk hk (bkn BK1359) NB1359_1362.out (by simp)); replace BK1368 := am (KeepBut.blk hk (bkn BK1368) NB1368_1362.out (by simp)); replace BK1374 := am (KeepBut.blk hk (g' := gb1374) (o := .cells #[.int .i64 t1363, .slice Ao39 t1369.length co39] 34 (0, 0)) (by (with_reducible repeat (first | refine blk_drewN ?_ _ | refine blk_drew ?_ | refine blk_alloc ?_ _)); refine blk_put (cs := #[.int .i64 t1363, .slice none 0 0]) ?_ 1 _ rfl; (with_reducible repeat (first | refine blk_drewN ?_ _ | refine blk_drew ?_ | refine blk_alloc ?_ _)); refine blk_put (cs := #[.int .i64 0, .slice none 0 0]) ?_ 0 _ rfl; (with_reducible repeat (first | refine blk_drewN ?_ _ | refine blk_drew ?_ | refine blk_alloc ?_ _)); exact BK1374.out) NB1374_1362.out (by simp)); replace HB := am hb; replace HI1362 := am hi; (try clear hb); (try clear hk); (try clear hi); have p1377 : 0 ≤ (t1375 : Int) := oa; have q1377 : t1375 < (t1369.length : Int) := oa; obtain ⟨ad1377, e1377, hx1377_0, hx1377_1⟩ := at_T73 (Kd.Q_reads' HO_6.out).2.2 t1375 p1377 q1377; cases e1377; replace p1377 := eq_true p1377; replace q1377 := eq_true q1377) | ((with_reducible refine gate_dst (N := 8) rfl ?_); refine be_ 8 #[.int .i64 0, .int .i64 0] 73 ?_; intro gb1378 hg w46 hbox hb; replace HO_6 := am (Kd.Q_below (Kd.Q_elderB (onQ HO_6) gb1378 (Nat.le_of_eq hg.symm)) hb); replace HO_1369001 := am (Kd.R_below (Kd.R_elderB (onR HO_1369001) gb1378 (Nat.le_of_eq hg.symm)) hb); have BK1378 := am hbox; have GW1378 := am (ge_ hg HB); have GE1378 := am (ge_ hg HB); replace HB := bs HB hb; obtain ⟨NB1359_1378, NB1378_1359⟩ := nb_ hg BK1359; replace BK1359 := bb BK1359 hb; obtain ⟨NB1368_1378, NB1378_1368⟩ := nb_ hg BK1368; replace BK1368 := bb BK1368 hb; obtain ⟨NB1374_1378, NB1378_1374⟩ := nb_ hg BK1374; replace BK1374 := bb BK1374 hb; have NB1362_1378 := am ((by rw [hg]; exact Nat.ne_of_lt (IsS120.lt (show IsS120 w _ g1362 t1360 t1376 from IsS120.now)) : g1362 ≠ gb1378)); have NB1378_1362 := am ((by rw [hg]; exact Nat.ne_of_gt (IsS120.lt (show IsS120 w _ g1362 t1360 t1376 from IsS120.now)) : gb1378 ≠ g1362)); replace HI1362 := am (IsS120.below (IsS120.now) hb); clear hb hbox hg; obtain ⟨hnb47, hnc47⟩ := n2 NB1378_1359 NB1359_1378; obtain ⟨hnb48, hnc48⟩ := n2 NB1378_1368 NB1368_1378; obtain ⟨hnb49, hnc49⟩ := n2 NB1378_1374 NB1374_1378; obtain ⟨hnb50, hnc50⟩ := n2 NB1378_1362 NB1362_1378; obtain ⟨hcz51_0, hcz51_1, hfz51_0, hfz51_1⟩ := c2 BK1378))
     have n0_ : Aside0 (Kd.Q k73 73 ((w46.setCell ⟨gb1378, 0, none⟩ (.int .i64 ((rd_T73 t1369 t1375).f0))).setCell ⟨gb1378, 1, none⟩ (.int .i64 ((rd_T73 t1369 t1375).f1))) w.heap.size (fun k_ => some k_ ≠ (.slice Ao13 t1364.length co13 : Value).ownBlock ∧ k_ ≠ gb1378) (.slice (some ad1377) t1369.length co39) t1369) := ⟨by (with_reducible repeat (first | apply Kd.Q_alloc | apply Kd.Q_drewN | apply Kd.Q_drew)); exact Kd.Q_mono (Kd.Q_far (p := ⟨gb1378, 1, none⟩) (Kd.Q_far (p := ⟨gb1378, 0, none⟩) (Kd.Q_mono HO_6.out (fun k_ hk => (⟨hk, hk.2⟩ : _ ∧ k_ ≠ gb1378))) (fun _ hk => hk.2) (.int .i64 ((rd_T73 t1369 t1375).f0))) (fun _ hk => hk.2) (.int .i64 ((rd_T73 t1369 t1375).f1))) (fun _ hk => ⟨hk.1.1, hk.1.2⟩)⟩
     have n1_ : Aside0 (Kd.R k73 73 ((w46.setCell ⟨gb1378, 0, none⟩ (.int .i64 ((rd_T73 t1369 t1375).f0))).setCell ⟨gb1378, 1, none⟩ (.int .i64 ((rd_T73 t1369 t1375).f1))) w.heap.size (fun k_ => some k_ ≠ (.slice (some ad1377) t1369.length co39 : Value).ownBlock ∧ k_ ≠ gb1378) (.slice Ao13 t1364.length co13) t1364) := ⟨by (with_reducible repeat (first | apply Kd.R_alloc | apply Kd.R_drewN | apply Kd.R_drew)); exact Kd.R_mono (Kd.R_far (p := ⟨gb1378, 1, none⟩) (Kd.R_far (p := ⟨gb1378, 0, none⟩) (Kd.R_mono HO_1369001.out (fun k_ hk => (⟨hk, hk.2⟩ : _ ∧ k_ ≠ gb1378))) (fun _ hk => hk.2) (.int .i64 ((rd_T73 t1369 t1375).f0))) (fun _ hk => hk.2) (.int .i64 ((rd_T73 t1369 t1375).f1))) (fun _ hk => ⟨hk.1.1, hk.1.2⟩)⟩
     have n2_ : Aside0 (((w46.setCell ⟨gb1378, 0, none⟩ (.int .i64 ((rd_T73 t1369 t1375).f0))).setCell ⟨gb1378, 1, none⟩ (.int .i64 ((rd_T73 t1369 t1375).f1))).heap[gb1359]? = some (.cells #[.int .i64 0, .slice none 0 0] 34 (0, 0))) := ⟨bkn BK1359⟩
     have n3_ : Aside0 (((w46.setCell ⟨gb1378, 0, none⟩ (.int .i64 ((rd_T73 t1369 t1375).f0))).setCell ⟨gb1378, 1, none⟩ (.int .i64 ((rd_T73 t1369 t1375).f1))).heap[gb1368]? = some (.cells #[.int .i64 t1363, .slice Ao13 t1364.length co13] 34 (0, 0))) := ⟨bkn BK1368⟩
     have n4_ : Aside0 (((w46.setCell ⟨gb1378, 0, none⟩ (.int .i64 ((rd_T73 t1369 t1375).f0))).setCell ⟨gb1378, 1, none⟩ (.int .i64 ((rd_T73 t1369 t1375).f1))).heap[gb1374]? = some (.cells #[.int .i64 t1363, .slice (some ad1377) t1369.length co39] 34 (0, 0))) := ⟨bkn BK1374⟩
     have n5_ : Aside0 (((w46.setCell ⟨gb1378, 0, none⟩ (.int .i64 ((rd_T73 t1369 t1375).f0))).setCell ⟨gb1378, 1, none⟩ (.int .i64 ((rd_T73 t1369 t1375).f1))).heap[gb1378]? = some (.cells #[.int .i64 ((rd_T73 t1369 t1375).f0), .int .i64 ((rd_T73 t1369 t1375).f1)] 73 (0, 0))) := ⟨by (with_reducible repeat (first | refine blk_drewN ?_ _ | refine blk_drew ?_ | refine blk_alloc ?_ _)); refine blk_put (cs := #[.int .i64 ((rd_T73 t1369 t1375).f0), .int .i64 0]) ?_ 1 _ rfl; (with_reducible repeat (first | refine blk_drewN ?_ _ | refine blk_drew ?_ | refine blk_alloc ?_ _)); refine blk_put (cs := #[.int .i64 0, .int .i64 0]) ?_ 0 _ rfl; (with_reducible repeat (first | refine blk_drewN ?_ _ | refine blk_drew ?_ | refine blk_alloc ?_ _)); exact BK1378.out⟩
     have n6_ : Aside0 (IsS120 w ((w46.setCell ⟨gb1378, 0, none⟩ (.int .i64 ((rd_T73 t1369 t1375).f0))).setCell ⟨gb1378, 1, none⟩ (.int .i64 ((rd_T73 t1369 t1375).f1))) g1362 t1360 t1376) := ⟨IsS120.now⟩
     have n7_ : Aside0 (Below w.heap.size w ((w46.setCell ⟨gb1378, 0, none⟩ (.int .i64 ((rd_T73 t1369 t1375).f0))).setCell ⟨gb1378, 1, none⟩ (.int .i64 ((rd_T73 t1369 t1375).f1)))) := ⟨bn HB⟩
     (try clear HO_6)
     (try clear HO_1369001)
     (try clear BK1359)
     (try clear BK1368)
     (try clear BK1374)
     (try clear BK1378)
     (try clear HI1362)
     (try clear HB)
     generalize ((w46.setCell ⟨gb1378, 0, none⟩ (.int .i64 ((rd_T73 t1369 t1375).f0))).setCell ⟨gb1378, 1, none⟩ (.int .i64 ((rd_T73 t1369 t1375).f1))) = w52 at n0_ n1_ n2_ n3_ n4_ n5_ n6_ n7_ ⊢
     have HO_6 := n0_
     have HO_1369001 := n1_
     have BK1359 := n2_
     have BK1368 := n3_
     have BK1374 := n4_
     have BK1378 := n5_
     have HI1362 := n6_
     have HB := n7_
     clear n0_ n1_ n2_ n3_ n4_ n5_ n6_ n7_
     replace HO_6 := am (Kd.Q_drew HO_6.out)
     replace HO_1369001 := am (Kd.R_drew HO_1369001.out)
     replace BK1359 := am (blk_drew BK1359.out)
     replace BK1368 := am (blk_drew BK1368.out)
     replace BK1374 := am (blk_drew BK1374.out)
     replace BK1378 := am (blk_drew BK1378.out)
     replace HI1362 := am (IsS120.drew HI1362.out)
     replace HB := am (below_drew1 HB.out)
     have p1381 : 0 ≤ (t1379 : Int) := oa
     have q1381 : t1379 < (t1364.length : Int) := oa
     obtain ⟨ad1381, e1381, hx1381_0, hx1381_1⟩ := at_T73 (Kd.R_reads' HO_1369001.out).2.2 t1379 p1381 q1381
     cases e1381
     replace p1381 := eq_true p1381
     replace q1381 := eq_true q1381
     refine start_ (n := 11) (S := fun w' => w'.cell? ⟨gb1368, 0, none⟩ = some (.int .i64 t1363) ∧ w'.cell? ⟨gb1368, 1, none⟩ = some (.slice (some ad1381) t1364.length co13) ∧ w'.cell? (ad1381.add ((t1379).toNat * 2)) = some (.int .i64 ((rd_T73 t1364 t1379).f0)) ∧ w'.cell? ⟨(ad1381.add ((t1379).toNat * 2)).block, (ad1381.add ((t1379).toNat * 2)).off + 1, none⟩ = some (.int .i64 ((rd_T73 t1364 t1379).f1))) (ds := []) #[false, false, false, false, false, false, false, false, false, false, false] (by kernel_rfl) rfl rfl ⟨(bc BK1368 0), (bc BK1368 1), hx1381_0, hx1381_1⟩ (fun hHeld => ?_); refine with_tabW spec_DrawTreeOk.tab7 spec_DrawTreeOk.bits7 (fun HT_ HW_ => ?_)
     generalize w52.drew = w53 at HO_6 HO_1369001 BK1359 BK1368 BK1374 BK1378 HI1362 HB hx1381_0 hx1381_1 hHeld ⊢
     refine pz_ 0 (some 45) HT_ ?_
     refine pz_ 2 (some 47) HT_ ?_
     refine pz_ 3 (some 48) HT_ ?_
     refine tz_ 1 (some 46) HT_ HW_ hHeld ?_
     refine tz_ 4 (some 49) HT_ HW_ hHeld ?_
     refine pz_ 5 (some 50) HT_ ?_
     refine join_ (σ := Nat) 1 #[true, true, true, true, true, true, true, true, true, true, false] (fun s_ => [(51, .int .i64 t1379), (9, .pointer (some ⟨s_, 0, none⟩)), (52, .pointer (some (ad1381.add ((t1379).toNat * 2)))), (53, .agg #[.int .i64 ((rd_T73 t1364 t1379).f0), .int .i64 ((rd_T73 t1364 t1379).f1)])]) (fun s_ w' => (w'.cell? ⟨gb1368, 0, none⟩ = some (.int .i64 t1363) ∧ w'.cell? ⟨gb1368, 1, none⟩ = some (.slice (some ad1381) t1364.length co13) ∧ w'.cell? (ad1381.add ((t1379).toNat * 2)) = some (.int .i64 ((rd_T73 t1364 t1379).f0)) ∧ w'.cell? ⟨(ad1381.add ((t1379).toNat * 2)).block, (ad1381.add ((t1379).toNat * 2)).off + 1, none⟩ = some (.int .i64 ((rd_T73 t1364 t1379).f1))) ∧ (Kd.R k73 73 w' w.heap.size (fun k_ => some k_ ≠ (.slice (some ad1377) t1369.length co39 : Value).ownBlock ∧ k_ ≠ gb1378 ∧ k_ ≠ s_) (.slice (some ad1381) t1364.length co13) t1364) ∧ (Kd.Q k73 73 w' w.heap.size (fun k_ => some k_ ≠ (.slice (some ad1381) t1364.length co13 : Value).ownBlock ∧ k_ ≠ gb1378 ∧ k_ ≠ s_) (.slice (some ad1377) t1369.length co39) t1369) ∧ (w'.heap[gb1359]? = some (.cells #[.int .i64 0, .slice none 0 0] 34 (0, 0))) ∧ (w'.heap[gb1368]? = some (.cells #[.int .i64 t1363, .slice (some ad1381) t1364.length co13] 34 (0, 0))) ∧ (w'.heap[gb1374]? = some (.cells #[.int .i64 t1363, .slice (some ad1377) t1369.length co39] 34 (0, 0))) ∧ (w'.heap[gb1378]? = some (.cells #[.int .i64 ((rd_T73 t1369 t1375).f0), .int .i64 ((rd_T73 t1369 t1375).f1)] 73 (0, 0))) ∧ (w'.heap[s_]? = some (.cells #[.int .i64 0, .int .i64 0] 73 (0, 0))) ∧ (w.heap.size ≤ s_) ∧ (w.heap.size ≤ s_) ∧ (g1362 ≠ s_) ∧ (s_ ≠ g1362) ∧ (gb1359 ≠ s_) ∧ (s_ ≠ gb1359) ∧ (gb1368 ≠ s_) ∧ (s_ ≠ gb1368) ∧ (gb1374 ≠ s_) ∧ (s_ ≠ gb1374) ∧ (gb1378 ≠ s_) ∧ (s_ ≠ gb1378) ∧ (IsS120 w w' g1362 t1360 t1380) ∧ (Below w.heap.size w w')) ?_ ?_
     rotate_left
     ·intro hCont
      refine two_ (i := 6) (j := 9) (Ni := some 51) (Nj := some 9) #[true, true, true, true, true, true, true, false, false, false, false] #[true, true, true, true, true, true, false, false, false, true, false] rfl rfl rfl rfl (two_of HT_.out (by kernel_rfl)) (by decide) (by decide) (fun K hK => ?_) (fun K hK => ?_)
      ·skip
       refine gg_ Try.func126 #[.pointer (some ⟨g1362, 0, none⟩), .int .i64 (t1364.length : Int)] ?_
       with_reducible refine (spec_l6Rd_pick.calls kj4 g1362 t1360 t1376 (t1364.length : Int) t1379 t1380 w _ ?side1 ?side2 A30.out).mono ?_
       (case side1 => exact IsS120.now)
       (case side2 => exact bn HB)
       rintro e w54 ⟨rfl, hi, hb, hk⟩
       have HS2_ := keep_cell hk (hHeld.2.2.1) (by first | (rw [add_block]; exact Kd.own_blk (IsS120.own_ne HI1362.out HO_1369001.out (by decide))) | (show (Addr.add _ _).block ≠ _; rw [add_block]; exact Kd.own_blk (IsS120.own_ne HI1362.out HO_1369001.out (by decide))) | exact Kd.own_blk (IsS120.own_ne HI1362.out HO_1369001.out (by decide)))
       have HS3_ := keep_cell hk (hHeld.2.2.2) (by first | (rw [add_block]; exact Kd.own_blk (IsS120.own_ne HI1362.out HO_1369001.out (by decide))) | (show (Addr.add _ _).block ≠ _; rw [add_block]; exact Kd.own_blk (IsS120.own_ne HI1362.out HO_1369001.out (by decide))) | exact Kd.own_blk (IsS120.own_ne HI1362.out HO_1369001.out (by decide)))
       refine ⟨_, rfl, ?_⟩
       replace HO_6 := am (Kd.Q_mono (Kd.Q_keep (IsS120.apartQ (show IsS120 w _ g1362 t1360 t1376 from IsS120.now) (onQ HO_6) (by decide)) hk (fun _ h => h.2)) (fun _ h => h.1))
       replace HO_1369001 := am (Kd.R_mono (Kd.R_keep (IsS120.apart (show IsS120 w _ g1362 t1360 t1376 from IsS120.now) (onR HO_1369001) (by decide)) hk (fun _ h => h.2)) (fun _ h => h.1))
       replace BK1359 := am (KeepBut.blk hk (bkn BK1359) NB1359_1362.out (by simp))
       replace BK1368 := am (KeepBut.blk hk (bkn BK1368) NB1368_1362.out (by simp))
       replace BK1374 := am (KeepBut.blk hk (bkn BK1374) NB1374_1362.out (by simp))
       replace BK1378 := am (KeepBut.blk hk (bkn BK1378) NB1378_1362.out (by simp))
       replace HB := am hb
       replace HI1362 := am hi
       (try clear hb)
       (try clear hb2)
       (try clear hk)
       (try clear hi)
       refine hK.out _ _ ⟨(bc BK1368 0), (bc BK1368 1), HS2_, HS3_⟩ (fun hHeld => ?_)
       clear hK K
       refine nz_ 51 ?_
       refine pz_ 7 (some 52) HT_ ?_
       refine tz_ 8 (some 53) HT_ HW_ hHeld ?_
       refine one_ (i := 9) (N := some 9) #[true, true, true, true, true, true, true, true, true, true, false] rfl rfl (one_of HT_.out (by kernel_rfl)) (by decide) (fun K hK => ?_)
       refine box_step ?hg (N := 9) ?hd (cs := #[.int .i64 0, .int .i64 0]) (t := 73) ?hr ?_; (case hd => rfl); (case hg => rfl); (case hr => first | (go_simp; done) | (go_simp; rfl))
       intro gb1382 hg w55 hbox hb
       have HS2_ := (hb.cell (World.block_lt_of_cell? _ _ (hHeld.2.2.1))).trans (hHeld.2.2.1)
       have HS3_ := (hb.cell (World.block_lt_of_cell? _ _ (hHeld.2.2.2))).trans (hHeld.2.2.2)
       have n0_ := am (Kd.Q_below (Kd.Q_elderB (onQ HO_6) gb1382 (Nat.le_of_eq hg.symm)) hb)
       have n1_ := am (Kd.R_below (Kd.R_elderB (onR HO_1369001) gb1382 (Nat.le_of_eq hg.symm)) hb)
       have n2_ := bb BK1359 hb
       have n3_ := bb BK1368 hb
       have n4_ := am (IsS120.below (IsS120.now) hb)
       have n5_ := bb BK1374 hb
       have n6_ := bb BK1378 hb
       have n7_ := bs HB hb
       have n8_ := am hbox
       have n9_ := am (ge_ hg HB)
       have n10_ := am (ge_ hg HB)
       have n11_ := am ((by rw [hg]; exact Nat.ne_of_lt (blk_lt (bkn BK1359)) : gb1359 ≠ gb1382))
       have n12_ := am ((by rw [hg]; exact Nat.ne_of_gt (blk_lt (bkn BK1359)) : gb1382 ≠ gb1359))
       have n13_ := am ((by rw [hg]; exact Nat.ne_of_lt (blk_lt (bkn BK1368)) : gb1368 ≠ gb1382))
       have n14_ := am ((by rw [hg]; exact Nat.ne_of_gt (blk_lt (bkn BK1368)) : gb1382 ≠ gb1368))
       have n15_ := am ((by rw [hg]; exact Nat.ne_of_lt (blk_lt (bkn BK1374)) : gb1374 ≠ gb1382))
       have n16_ := am ((by rw [hg]; exact Nat.ne_of_gt (blk_lt (bkn BK1374)) : gb1382 ≠ gb1374))
       have n17_ := am ((by rw [hg]; exact Nat.ne_of_lt (blk_lt (bkn BK1378)) : gb1378 ≠ gb1382))
       have n18_ := am ((by rw [hg]; exact Nat.ne_of_gt (blk_lt (bkn BK1378)) : gb1382 ≠ gb1378))
       have n19_ := am ((by rw [hg]; exact Nat.ne_of_lt (IsS120.lt (show IsS120 w _ g1362 t1360 t1380 from IsS120.now)) : g1362 ≠ gb1382))
       have n20_ := am ((by rw [hg]; exact Nat.ne_of_gt (IsS120.lt (show IsS120 w _ g1362 t1360 t1380 from IsS120.now)) : gb1382 ≠ g1362))
       clear HO_6 HO_1369001 BK1359 BK1368 HI1362 BK1374 BK1378 HB
       have HO_6 := n0_
       have HO_1369001 := n1_
       have BK1359 := n2_
       have BK1368 := n3_
       have HI1362 := n4_
       have BK1374 := n5_
       have BK1378 := n6_
       have HB := n7_
       have BK1382 := n8_
       have GW1382 := n9_
       have GE1382 := n10_
       have NB1359_1382 := n11_
       have NB1382_1359 := n12_
       have NB1368_1382 := n13_
       have NB1382_1368 := n14_
       have NB1374_1382 := n15_
       have NB1382_1374 := n16_
       have NB1378_1382 := n17_
       have NB1382_1378 := n18_
       have NB1362_1382 := n19_
       have NB1382_1362 := n20_
       clear n0_ n1_ n2_ n3_ n4_ n5_ n6_ n7_ n8_ n9_ n10_ n11_ n12_ n13_ n14_ n15_ n16_ n17_ n18_ n19_ n20_ hb hbox hg
       refine hK.out _ _ ⟨(bc BK1368 0), (bc BK1368 1), HS2_, HS3_⟩ (fun hHeld => ?_)
       clear hK K
       refine nz_ 9 ?_
       exact norm_ (by simp only [putAll, Act.put, List.setIfInBounds_toArray, List.set_cons_zero, List.set_cons_succ]) (hCont (gb1382) _ ⟨hHeld, (by (with_reducible repeat (first | apply Kd.R_alloc | apply Kd.R_drewN | apply Kd.R_drew)); exact Kd.R_mono HO_1369001.out (fun _ hk => ⟨hk.1.1, ⟨hk.1.2, hk.2⟩⟩)), (by (with_reducible repeat (first | apply Kd.Q_alloc | apply Kd.Q_drewN | apply Kd.Q_drew)); exact Kd.Q_mono HO_6.out (fun _ hk => ⟨hk.1.1, ⟨hk.1.2, hk.2⟩⟩)), (bkn BK1359), (bkn BK1368), (bkn BK1374), (bkn BK1378), (bkn BK1382), GW1382.out, GE1382.out, NB1362_1382.out, NB1382_1362.out, NB1359_1382.out, NB1382_1359.out, NB1368_1382.out, NB1382_1368.out, NB1374_1382.out, NB1382_1374.out, NB1378_1382.out, NB1382_1378.out, (IsS120.now), (bn HB)⟩)
      ·skip
       refine box_step ?hg (N := 9) ?hd (cs := #[.int .i64 0, .int .i64 0]) (t := 73) ?hr ?_; (case hd => rfl); (case hg => rfl); (case hr => first | (go_simp; done) | (go_simp; rfl))
       intro gb1382 hg w54 hbox hb
       have HS2_ := (hb.cell (World.block_lt_of_cell? _ _ (hHeld.2.2.1))).trans (hHeld.2.2.1)
       have HS3_ := (hb.cell (World.block_lt_of_cell? _ _ (hHeld.2.2.2))).trans (hHeld.2.2.2)
       have n0_ := am (Kd.Q_below (Kd.Q_elderB (onQ HO_6) gb1382 (Nat.le_of_eq hg.symm)) hb)
       have n1_ := am (Kd.R_below (Kd.R_elderB (onR HO_1369001) gb1382 (Nat.le_of_eq hg.symm)) hb)
       have n2_ := bb BK1359 hb
       have n3_ := bb BK1368 hb
       have n4_ := am (IsS120.below (IsS120.now) hb)
       have n5_ := bb BK1374 hb
       have n6_ := bb BK1378 hb
       have n7_ := bs HB hb
       have n8_ := am hbox
       have n9_ := am (ge_ hg HB)
       have n10_ := am (ge_ hg HB)
       have n11_ := am ((by rw [hg]; exact Nat.ne_of_lt (blk_lt (bkn BK1359)) : gb1359 ≠ gb1382))
       have n12_ := am ((by rw [hg]; exact Nat.ne_of_gt (blk_lt (bkn BK1359)) : gb1382 ≠ gb1359))
       have n13_ := am ((by rw [hg]; exact Nat.ne_of_lt (blk_lt (bkn BK1368)) : gb1368 ≠ gb1382))
       have n14_ := am ((by rw [hg]; exact Nat.ne_of_gt (blk_lt (bkn BK1368)) : gb1382 ≠ gb1368))
       have n15_ := am ((by rw [hg]; exact Nat.ne_of_lt (blk_lt (bkn BK1374)) : gb1374 ≠ gb1382))
       have n16_ := am ((by rw [hg]; exact Nat.ne_of_gt (blk_lt (bkn BK1374)) : gb1382 ≠ gb1374))
       have n17_ := am ((by rw [hg]; exact Nat.ne_of_lt (blk_lt (bkn BK1378)) : gb1378 ≠ gb1382))
       have n18_ := am ((by rw [hg]; exact Nat.ne_of_gt (blk_lt (bkn BK1378)) : gb1382 ≠ gb1378))
       have n19_ := am ((by rw [hg]; exact Nat.ne_of_lt (IsS120.lt (show IsS120 w _ g1362 t1360 t1376 from IsS120.now)) : g1362 ≠ gb1382))
       have n20_ := am ((by rw [hg]; exact Nat.ne_of_gt (IsS120.lt (show IsS120 w _ g1362 t1360 t1376 from IsS120.now)) : gb1382 ≠ g1362))
       clear HO_6 HO_1369001 BK1359 BK1368 HI1362 BK1374 BK1378 HB
       have HO_6 := n0_
       have HO_1369001 := n1_
       have BK1359 := n2_
       have BK1368 := n3_
       have HI1362 := n4_
       have BK1374 := n5_
       have BK1378 := n6_
       have HB := n7_
       have BK1382 := n8_
       have GW1382 := n9_
       have GE1382 := n10_
       have NB1359_1382 := n11_
       have NB1382_1359 := n12_
       have NB1368_1382 := n13_
       have NB1382_1368 := n14_
       have NB1374_1382 := n15_
       have NB1382_1374 := n16_
       have NB1378_1382 := n17_
       have NB1382_1378 := n18_
       have NB1362_1382 := n19_
       have NB1382_1362 := n20_
       clear n0_ n1_ n2_ n3_ n4_ n5_ n6_ n7_ n8_ n9_ n10_ n11_ n12_ n13_ n14_ n15_ n16_ n17_ n18_ n19_ n20_ hb hbox hg
       refine hK.out _ _ ⟨(bc BK1368 0), (bc BK1368 1), HS2_, HS3_⟩ (fun hHeld => ?_)
       clear hK K
       refine nz_ 9 ?_
       refine one_ (i := 6) (N := some 51) #[true, true, true, true, true, true, true, false, false, true, false] rfl rfl (one_of HT_.out (by kernel_rfl)) (by decide) (fun K hK => ?_)
       refine gg_ Try.func126 #[.pointer (some ⟨g1362, 0, none⟩), .int .i64 (t1364.length : Int)] ?_
       with_reducible refine (spec_l6Rd_pick.calls kj4 g1362 t1360 t1376 (t1364.length : Int) t1379 t1380 w _ ?side1 ?side2 A30.out).mono ?_
       (case side1 => exact IsS120.now)
       (case side2 => exact bn HB)
       rintro e w55 ⟨rfl, hi, hb, hk⟩
       have HS2_ := keep_cell hk (hHeld.2.2.1) (by first | (rw [add_block]; exact Kd.own_blk (IsS120.own_ne HI1362.out HO_1369001.out (by decide))) | (show (Addr.add _ _).block ≠ _; rw [add_block]; exact Kd.own_blk (IsS120.own_ne HI1362.out HO_1369001.out (by decide))) | exact Kd.own_blk (IsS120.own_ne HI1362.out HO_1369001.out (by decide)))
       have HS3_ := keep_cell hk (hHeld.2.2.2) (by first | (rw [add_block]; exact Kd.own_blk (IsS120.own_ne HI1362.out HO_1369001.out (by decide))) | (show (Addr.add _ _).block ≠ _; rw [add_block]; exact Kd.own_blk (IsS120.own_ne HI1362.out HO_1369001.out (by decide))) | exact Kd.own_blk (IsS120.own_ne HI1362.out HO_1369001.out (by decide)))
       refine ⟨_, rfl, ?_⟩
       replace HO_6 := am (Kd.Q_mono (Kd.Q_keep (IsS120.apartQ (show IsS120 w _ g1362 t1360 t1376 from IsS120.now) (onQ HO_6) (by decide)) hk (fun _ h => h.2)) (fun _ h => h.1))
       replace HO_1369001 := am (Kd.R_mono (Kd.R_keep (IsS120.apart (show IsS120 w _ g1362 t1360 t1376 from IsS120.now) (onR HO_1369001) (by decide)) hk (fun _ h => h.2)) (fun _ h => h.1))
       replace BK1359 := am (KeepBut.blk hk (bkn BK1359) NB1359_1362.out (by simp))
       replace BK1368 := am (KeepBut.blk hk (bkn BK1368) NB1368_1362.out (by simp))
       replace BK1374 := am (KeepBut.blk hk (bkn BK1374) NB1374_1362.out (by simp))
       replace BK1378 := am (KeepBut.blk hk (bkn BK1378) NB1378_1362.out (by simp))
       replace BK1382 := am (KeepBut.blk hk (bkn BK1382) NB1382_1362.out (by simp))
       replace HB := am hb
       replace HI1362 := am hi
       (try clear hb)
       (try clear hb2)
       (try clear hk)
       (try clear hi)
       refine hK.out _ _ ⟨(bc BK1368 0), (bc BK1368 1), HS2_, HS3_⟩ (fun hHeld => ?_)
       clear hK K
       refine nz_ 51 ?_
       refine pz_ 7 (some 52) HT_ ?_
       refine tz_ 8 (some 53) HT_ HW_ hHeld ?_
       exact norm_ (by simp only [putAll, Act.put, List.setIfInBounds_toArray, List.set_cons_zero, List.set_cons_succ]) (hCont (gb1382) _ ⟨hHeld, (by (with_reducible repeat (first | apply Kd.R_alloc | apply Kd.R_drewN | apply Kd.R_drew)); exact Kd.R_mono HO_1369001.out (fun _ hk => ⟨hk.1.1, ⟨hk.1.2, hk.2⟩⟩)), (by (with_reducible repeat (first | apply Kd.Q_alloc | apply Kd.Q_drewN | apply Kd.Q_drew)); exact Kd.Q_mono HO_6.out (fun _ hk => ⟨hk.1.1, ⟨hk.1.2, hk.2⟩⟩)), (bkn BK1359), (bkn BK1368), (bkn BK1374), (bkn BK1378), (bkn BK1382), GW1382.out, GE1382.out, NB1362_1382.out, NB1382_1362.out, NB1359_1382.out, NB1382_1359.out, NB1368_1382.out, NB1382_1368.out, NB1374_1382.out, NB1382_1374.out, NB1378_1382.out, NB1382_1378.out, (IsS120.now), (bn HB)⟩)
     rintro gb1382 w56 ⟨hS_, h0_, h1_, h2_, h3_, h4_, h5_, h6_, h7_, h8_, h9_, h10_, h11_, h12_, h13_, h14_, h15_, h16_, h17_, h18_, h19_, h20_⟩
     have n0_ : Aside0 (Kd.R k73 73 w56 w.heap.size (fun k_ => some k_ ≠ (.slice (some ad1377) t1369.length co39 : Value).ownBlock ∧ k_ ≠ gb1378 ∧ k_ ≠ gb1382) (.slice (some ad1381) t1364.length co13) t1364) := ⟨h0_⟩
     have n1_ : Aside0 (Kd.Q k73 73 w56 w.heap.size (fun k_ => some k_ ≠ (.slice (some ad1381) t1364.length co13 : Value).ownBlock ∧ k_ ≠ gb1378 ∧ k_ ≠ gb1382) (.slice (some ad1377) t1369.length co39) t1369) := ⟨h1_⟩
     have n2_ : Aside0 (w56.heap[gb1359]? = some (.cells #[.int .i64 0, .slice none 0 0] 34 (0, 0))) := ⟨h2_⟩
     have n3_ : Aside0 (w56.heap[gb1368]? = some (.cells #[.int .i64 t1363, .slice (some ad1381) t1364.length co13] 34 (0, 0))) := ⟨h3_⟩
     have n4_ : Aside0 (w56.heap[gb1374]? = some (.cells #[.int .i64 t1363, .slice (some ad1377) t1369.length co39] 34 (0, 0))) := ⟨h4_⟩
     have n5_ : Aside0 (w56.heap[gb1378]? = some (.cells #[.int .i64 ((rd_T73 t1369 t1375).f0), .int .i64 ((rd_T73 t1369 t1375).f1)] 73 (0, 0))) := ⟨h5_⟩
     have n6_ : Aside0 (w56.heap[gb1382]? = some (.cells #[.int .i64 0, .int .i64 0] 73 (0, 0))) := ⟨h6_⟩
     have n7_ : Aside0 (w.heap.size ≤ gb1382) := ⟨h7_⟩
     have n8_ : Aside0 (w.heap.size ≤ gb1382) := ⟨h8_⟩
     have n9_ : Aside0 (g1362 ≠ gb1382) := ⟨h9_⟩
     have n10_ : Aside0 (gb1382 ≠ g1362) := ⟨h10_⟩
     have n11_ : Aside0 (gb1359 ≠ gb1382) := ⟨h11_⟩
     have n12_ : Aside0 (gb1382 ≠ gb1359) := ⟨h12_⟩
     have n13_ : Aside0 (gb1368 ≠ gb1382) := ⟨h13_⟩
     have n14_ : Aside0 (gb1382 ≠ gb1368) := ⟨h14_⟩
     have n15_ : Aside0 (gb1374 ≠ gb1382) := ⟨h15_⟩
     have n16_ : Aside0 (gb1382 ≠ gb1374) := ⟨h16_⟩
     have n17_ : Aside0 (gb1378 ≠ gb1382) := ⟨h17_⟩
     have n18_ : Aside0 (gb1382 ≠ gb1378) := ⟨h18_⟩
     have n19_ : Aside0 (IsS120 w w56 g1362 t1360 t1380) := ⟨h19_⟩
     have n20_ : Aside0 (Below w.heap.size w w56) := ⟨h20_⟩
     clear HO_6 HO_1369001 BK1359 BK1368 BK1374 BK1378 HI1362 HB h0_ h1_ h2_ h3_ h4_ h5_ h6_ h7_ h8_ h9_ h10_ h11_ h12_ h13_ h14_ h15_ h16_ h17_ h18_ h19_ h20_
     have HO_1369001 := n0_
     have HO_6 := n1_
     have BK1359 := n2_
     have BK1368 := n3_
     have BK1374 := n4_
     have BK1378 := n5_
     have BK1382 := n6_
     have GW1382 := n7_
     have GE1382 := n8_
     have NB1362_1382 := n9_
     have NB1382_1362 := n10_
     have NB1359_1382 := n11_
     have NB1382_1359 := n12_
     have NB1368_1382 := n13_
     have NB1382_1368 := n14_
     have NB1374_1382 := n15_
     have NB1382_1374 := n16_
     have NB1378_1382 := n17_
     have NB1382_1378 := n18_
     have HI1362 := n19_
     have HB := n20_
     clear n0_ n1_ n2_ n3_ n4_ n5_ n6_ n7_ n8_ n9_ n10_ n11_ n12_ n13_ n14_ n15_ n16_ n17_ n18_ n19_ n20_
     have hHeld : w56.cell? ⟨gb1368, 0, none⟩ = some (.int .i64 t1363) ∧ w56.cell? ⟨gb1368, 1, none⟩ = some (.slice (some ad1381) t1364.length co13) ∧ w56.cell? (ad1381.add ((t1379).toNat * 2)) = some (.int .i64 ((rd_T73 t1364 t1379).f0)) ∧ w56.cell? ⟨(ad1381.add ((t1379).toNat * 2)).block, (ad1381.add ((t1379).toNat * 2)).off + 1, none⟩ = some (.int .i64 ((rd_T73 t1364 t1379).f1)) := hS_
     refine norm_ (a' := ?_) ?_ ?_
     rotate_left
     ·simp only [putAll, Act.put, List.setIfInBounds_toArray, List.set_cons_zero, List.set_cons_succ]
      rfl
     refine one_ (i := 10) (N := none) #[true, true, true, true, true, true, true, true, true, true, true] rfl rfl (one_of HT_.out (by kernel_rfl)) (by decide) (fun K hK => ?_)
     have hs57 := bc BK1382 0
     have hfs57 := blk_frozen BK1382.out 0
     have hns57_0 := NB1359_1382.out
     have hns57_1 := NB1368_1382.out
     have hns57_2 := NB1374_1382.out
     have hns57_3 := NB1378_1382.out
     have hms57_0 := NB1382_1359.out
     have hms57_1 := NB1382_1368.out
     have hms57_2 := NB1382_1374.out
     have hms57_3 := NB1382_1378.out
     have hs58 := bc BK1382 1
     have hfs58 := blk_frozen BK1382.out 1
     have hns58_0 := NB1359_1382.out
     have hns58_1 := NB1368_1382.out
     have hns58_2 := NB1374_1382.out
     have hns58_3 := NB1378_1382.out
     have hms58_0 := NB1382_1359.out
     have hms58_1 := NB1382_1368.out
     have hms58_2 := NB1382_1374.out
     have hms58_3 := NB1382_1378.out
     refine skip_ (w1 := ?_) (by rfl) rfl ?_ ?_
     rotate_left
     ·go_simp
      rfl
     refine hK.out _ _ ⟨((cell_far (p := ⟨gb1382, _, none⟩) NB1368_1382.out _).trans (((cell_far (p := ⟨gb1382, _, none⟩) NB1368_1382.out _).trans (hHeld.1)))), ((cell_far (p := ⟨gb1382, _, none⟩) NB1368_1382.out _).trans (((cell_far (p := ⟨gb1382, _, none⟩) NB1368_1382.out _).trans (hHeld.2.1)))), ((cell_far (p := ⟨gb1382, _, none⟩) (by first | exact Kd.own_blk (Kd.R_away HO_1369001.out (fun _ hk => hk.2.2)) | (rw [add_block]; exact Kd.own_blk (Kd.R_away HO_1369001.out (fun _ hk => hk.2.2))) | (show (Addr.add _ _).block ≠ _; rw [add_block]; exact Kd.own_blk (Kd.R_away HO_1369001.out (fun _ hk => hk.2.2))) | (dsimp only; exact Kd.own_blk (Kd.R_away HO_1369001.out (fun _ hk => hk.2.2)))) _).trans (((cell_far (p := ⟨gb1382, _, none⟩) (by first | exact Kd.own_blk (Kd.R_away HO_1369001.out (fun _ hk => hk.2.2)) | (rw [add_block]; exact Kd.own_blk (Kd.R_away HO_1369001.out (fun _ hk => hk.2.2))) | (show (Addr.add _ _).block ≠ _; rw [add_block]; exact Kd.own_blk (Kd.R_away HO_1369001.out (fun _ hk => hk.2.2))) | (dsimp only; exact Kd.own_blk (Kd.R_away HO_1369001.out (fun _ hk => hk.2.2)))) _).trans (hHeld.2.2.1)))), ((cell_far (p := ⟨gb1382, _, none⟩) (by first | exact Kd.own_blk (Kd.R_away HO_1369001.out (fun _ hk => hk.2.2)) | (rw [add_block]; exact Kd.own_blk (Kd.R_away HO_1369001.out (fun _ hk => hk.2.2))) | (show (Addr.add _ _).block ≠ _; rw [add_block]; exact Kd.own_blk (Kd.R_away HO_1369001.out (fun _ hk => hk.2.2))) | (dsimp only; exact Kd.own_blk (Kd.R_away HO_1369001.out (fun _ hk => hk.2.2)))) _).trans (((cell_far (p := ⟨gb1382, _, none⟩) (by first | exact Kd.own_blk (Kd.R_away HO_1369001.out (fun _ hk => hk.2.2)) | (rw [add_block]; exact Kd.own_blk (Kd.R_away HO_1369001.out (fun _ hk => hk.2.2))) | (show (Addr.add _ _).block ≠ _; rw [add_block]; exact Kd.own_blk (Kd.R_away HO_1369001.out (fun _ hk => hk.2.2))) | (dsimp only; exact Kd.own_blk (Kd.R_away HO_1369001.out (fun _ hk => hk.2.2)))) _).trans (hHeld.2.2.2))))⟩ (fun hHeld => ?_)
     clear hK K
     refine done_ (done_of HT_.out (by kernel_rfl)) ?_
     obtain ⟨hnb59, hnc59⟩ := n2 NB1374_1382 NB1382_1374
     obtain ⟨hcz60_0, hcz60_1, hfz60_0, hfz60_1⟩ := c2 BK1374
     obtain ⟨hnb61, hnc61⟩ := n2 NB1378_1382 NB1382_1378
     obtain ⟨hcz62_0, hcz62_1, hfz62_0, hfz62_1⟩ := c2 BK1378
     try go_wp2_with (first | ((with_reducible refine gate_callee (f := 103) rfl ?_); refine gl_ (some 60) Try.func103 #[.agg #[.int .i64 t1363, .slice (some ad1377) t1369.length co39], .int .i64 ((rd_T73 t1369 t1375).f0), .int .i64 ((rd_T73 t1369 t1375).f1)] ?_; (with_reducible refine (spec_NetCut.calls kj4 t1363 _ _ t1369 ((rd_T73 t1369 t1375).f0) ((rd_T73 t1369 t1375).f1) t1383 t1384 t1387 _ ?side1 ?side2 A33.out).mono ?_); (case side1 => refine (Kd.Q_reads' (e := 73) (base := w.heap.size) (ok := fun k_ => (some k_ ≠ (.slice (some ad1381) t1364.length co13 : Value).ownBlock ∧ (k_ ≠ gb1378 ∧ k_ ≠ gb1382))) (n := t1369.length) (c := co39) ?_).2.2; exact (by (with_reducible repeat (first | apply Kd.Q_alloc | apply Kd.Q_drewN | apply Kd.Q_drew)); exact (Kd.Q_mono (Kd.Q_far (p := ⟨gb1382, 1, none⟩) (Kd.Q_far (p := ⟨gb1382, 0, none⟩) (Kd.Q_mono HO_6.out (fun k_ hk => (⟨hk, hk.2.2⟩ : _ ∧ k_ ≠ gb1382))) (fun _ hk => hk.2) (.int .i64 ((rd_T73 t1364 t1379).f0))) (fun _ hk => hk.2) (.int .i64 ((rd_T73 t1364 t1379).f1))) (fun _ h_ => h_.1)))); (case side2 => exact (Kd.Q_reads' HO_6.out).2.1); rintro e w63 ⟨v1385, rfl, ho0, hb⟩; refine ⟨_, rfl, ?_⟩; have HO1386 := am (Kd.R_lower (Kd.R_newB (Kd.R_newB (Kd.R_new' (Kd.R_new' ho0 (Kd.Q_lt (by (with_reducible repeat (first | apply Kd.Q_alloc | apply Kd.Q_drewN | apply Kd.Q_drew)); exact (Kd.Q_mono (Kd.Q_far (p := ⟨gb1382, 1, none⟩) (Kd.Q_far (p := ⟨gb1382, 0, none⟩) (Kd.Q_mono HO_6.out (fun k_ hk => (⟨hk, hk.2.2⟩ : _ ∧ k_ ≠ gb1382))) (fun _ hk => hk.2) (.int .i64 ((rd_T73 t1364 t1379).f0))) (fun _ hk => hk.2) (.int .i64 ((rd_T73 t1364 t1379).f1))) (fun _ h_ => h_.1))))) (Kd.R_lt (by (with_reducible repeat (first | apply Kd.R_alloc | apply Kd.R_drewN | apply Kd.R_drew)); exact (Kd.R_mono (Kd.R_far (p := ⟨gb1382, 1, none⟩) (Kd.R_far (p := ⟨gb1382, 0, none⟩) (Kd.R_mono HO_1369001.out (fun k_ hk => (⟨hk, hk.2.2⟩ : _ ∧ k_ ≠ gb1382))) (fun _ hk => hk.2) (.int .i64 ((rd_T73 t1364 t1379).f0))) (fun _ hk => hk.2) (.int .i64 ((rd_T73 t1364 t1379).f1))) (fun _ h_ => h_.1))))) (bkn BK1378)) (g := gb1382) (o := .cells #[.int .i64 ((rd_T73 t1364 t1379).f0), .int .i64 ((rd_T73 t1364 t1379).f1)] 73 (0, 0)) (by (with_reducible repeat (first | refine blk_drewN ?_ _ | refine blk_drew ?_ | refine blk_alloc ?_ _)); refine blk_put (cs := #[.int .i64 ((rd_T73 t1364 t1379).f0), .int .i64 0]) ?_ 1 _ rfl; (with_reducible repeat (first | refine blk_drewN ?_ _ | refine blk_drew ?_ | refine blk_alloc ?_ _)); refine blk_put (cs := #[.int .i64 0, .int .i64 0]) ?_ 0 _ rfl; (with_reducible repeat (first | refine blk_drewN ?_ _ | refine blk_drew ?_ | refine blk_alloc ?_ _)); exact BK1382.out)) (below_size (bn HB))); replace HO_6 := am (Kd.Q_elder' (by (with_reducible repeat (first | apply Kd.Q_alloc | apply Kd.Q_drewN | apply Kd.Q_drew)); exact (Kd.Q_mono (Kd.Q_far (p := ⟨gb1382, 1, none⟩) (Kd.Q_far (p := ⟨gb1382, 0, none⟩) (Kd.Q_mono HO_6.out (fun k_ hk => (⟨hk, hk.2.2⟩ : _ ∧ k_ ≠ gb1382))) (fun _ hk => hk.2) (.int .i64 ((rd_T73 t1364 t1379).f0))) (fun _ hk => hk.2) (.int .i64 ((rd_T73 t1364 t1379).f1))) (fun _ h_ => h_.1))) (Kd.R_base ho0) hb); replace HO_1369001 := am (Kd.R_elder' (by (with_reducible repeat (first | apply Kd.R_alloc | apply Kd.R_drewN | apply Kd.R_drew)); exact (Kd.R_mono (Kd.R_far (p := ⟨gb1382, 1, none⟩) (Kd.R_far (p := ⟨gb1382, 0, none⟩) (Kd.R_mono HO_1369001.out (fun k_ hk => (⟨hk, hk.2.2⟩ : _ ∧ k_ ≠ gb1382))) (fun _ hk => hk.2) (.int .i64 ((rd_T73 t1364 t1379).f0))) (fun _ hk => hk.2) (.int .i64 ((rd_T73 t1364 t1379).f1))) (fun _ h_ => h_.1))) (Kd.R_base ho0) hb); replace BK1359 := bb BK1359 hb; replace BK1368 := bb BK1368 hb; replace HI1362 := am (IsS120.below (show IsS120 w ((w56.setCell ⟨gb1382, 0, none⟩ (.int .i64 ((rd_T73 t1364 t1379).f0))).setCell ⟨gb1382, 1, none⟩ (.int .i64 ((rd_T73 t1364 t1379).f1))) g1362 t1360 t1380 from IsS120.now) hb); replace BK1374 := bb BK1374 hb; replace BK1378 := bb BK1378 hb; replace BK1382 := am (blk_below (g := gb1382) (o := .cells #[.int .i64 ((rd_T73 t1364 t1379).f0), .int .i64 ((rd_T73 t1364 t1379).f1)] 73 (0, 0)) (by (with_reducible repeat (first | refine blk_drewN ?_ _ | refine blk_drew ?_ | refine blk_alloc ?_ _)); refine blk_put (cs := #[.int .i64 ((rd_T73 t1364 t1379).f0), .int .i64 0]) ?_ 1 _ rfl; (with_reducible repeat (first | refine blk_drewN ?_ _ | refine blk_drew ?_ | refine blk_alloc ?_ _)); refine blk_put (cs := #[.int .i64 0, .int .i64 0]) ?_ 0 _ rfl; (with_reducible repeat (first | refine blk_drewN ?_ _ | refine blk_drew ?_ | refine blk_alloc ?_ _)); exact BK1382.out) hb); replace HB := bs HB hb; (try clear hb); (try clear ho0); obtain ⟨hcz64_0, hcz64_1, hfz64_0, hfz64_1⟩ := c2 BK1374; obtain ⟨Ao65, co65, eo65⟩ := Kd.R_slice HO1386.out; subst eo65; obtain ⟨hnb66, hnc66⟩ := n2 NB1382_1359 NB1359_1382; obtain ⟨hnb67, hnc67⟩ := n2 NB1382_1368 NB1368_1382; obtain ⟨hnb68, hnc68⟩ := n2 NB1382_1362 NB1362_1382; have hcz69_0 : w63.cell? ⟨gb1382, 0, none⟩ = some (.int .i64 ((rd_T73 t1364 t1379).f0)) := (bc BK1382 0); have hcz69_1 : w63.cell? ⟨gb1382, 1, none⟩ = some (.int .i64 ((rd_T73 t1364 t1379).f1)) := (bc BK1382 1); have hfz69_0 := blk_frozen BK1382.out 0; have hfz69_1 := blk_frozen BK1382.out 1) | ((with_reducible refine gate_callee (f := 127) rfl ?_); refine gl_ (some 69) Try.func127 #[.agg #[.int .i64 t1383, .slice Ao65 t1384.length co65], .int .i64 ((rd_T73 t1364 t1379).f0), .int .i64 ((rd_T73 t1364 t1379).f1)] ?_; (with_reducible refine (spec_NetAdd.calls kj4 t1383 _ _ t1384 ((rd_T73 t1364 t1379).f0) ((rd_T73 t1364 t1379).f1) t1388 t1389 true _ ?side1 ?side2 A34.out).mono ?_); (case side1 => refine (Kd.R_reads' (e := 73) (base := w.heap.size) (ok := fun k_ => ((((True ∧ some k_ ≠ (.slice (some ad1377) t1369.length co39 : Value).ownBlock) ∧ some k_ ≠ (.slice (some ad1381) t1364.length co13 : Value).ownBlock) ∧ k_ ≠ gb1378) ∧ k_ ≠ gb1382)) (n := t1384.length) (c := co65) ?_).2.2; exact (by (with_reducible repeat (first | apply Kd.R_alloc | apply Kd.R_drewN | apply Kd.R_drew)); exact (Kd.R_mono (Kd.R_far (p := ⟨gb1374, 1, none⟩) (Kd.R_far (p := ⟨gb1374, 0, none⟩) (Kd.R_types HO1386.out BK1374.out (by decide)) (fun _ hk => hk.2) (.int .i64 t1383)) (fun _ hk => hk.2) (.slice Ao65 t1384.length co65)) (fun _ h_ => h_.1)))); (case side2 => exact (Kd.R_reads' HO1386.out).2.1); rintro e w70 ⟨v1390, rfl, ho0, hb⟩; refine ⟨_, rfl, ?_⟩; have HO1391 := am (Kd.R_lower (Kd.R_newB (Kd.R_newB (Kd.R_new' (Kd.R_new' (Kd.R_new' ho0 (Kd.Q_lt (by (with_reducible repeat (first | apply Kd.Q_alloc | apply Kd.Q_drewN | apply Kd.Q_drew)); exact (Kd.Q_mono (Kd.Q_far (p := ⟨gb1374, 1, none⟩) (Kd.Q_far (p := ⟨gb1374, 0, none⟩) (Kd.Q_types HO_6.out BK1374.out (by decide)) (fun _ hk => hk.2) (.int .i64 t1383)) (fun _ hk => hk.2) (.slice Ao65 t1384.length co65)) (fun _ h_ => h_.1))))) (Kd.R_lt (by (with_reducible repeat (first | apply Kd.R_alloc | apply Kd.R_drewN | apply Kd.R_drew)); exact (Kd.R_mono (Kd.R_far (p := ⟨gb1374, 1, none⟩) (Kd.R_far (p := ⟨gb1374, 0, none⟩) (Kd.R_types HO_1369001.out BK1374.out (by decide)) (fun _ hk => hk.2) (.int .i64 t1383)) (fun _ hk => hk.2) (.slice Ao65 t1384.length co65)) (fun _ h_ => h_.1))))) (Kd.R_lt (by (with_reducible repeat (first | apply Kd.R_alloc | apply Kd.R_drewN | apply Kd.R_drew)); exact (Kd.R_mono (Kd.R_far (p := ⟨gb1374, 1, none⟩) (Kd.R_far (p := ⟨gb1374, 0, none⟩) (Kd.R_types HO1386.out BK1374.out (by decide)) (fun _ hk => hk.2) (.int .i64 t1383)) (fun _ hk => hk.2) (.slice Ao65 t1384.length co65)) (fun _ h_ => h_.1))))) (bkn BK1378)) (bkn BK1382)) (below_size (bn HB))); replace HO_6 := am (Kd.Q_elder' (by (with_reducible repeat (first | apply Kd.Q_alloc | apply Kd.Q_drewN | apply Kd.Q_drew)); exact (Kd.Q_mono (Kd.Q_far (p := ⟨gb1374, 1, none⟩) (Kd.Q_far (p := ⟨gb1374, 0, none⟩) (Kd.Q_types HO_6.out BK1374.out (by decide)) (fun _ hk => hk.2) (.int .i64 t1383)) (fun _ hk => hk.2) (.slice Ao65 t1384.length co65)) (fun _ h_ => h_.1))) (Kd.R_base ho0) hb); replace HO_1369001 := am (Kd.R_elder' (by (with_reducible repeat (first | apply Kd.R_alloc | apply Kd.R_drewN | apply Kd.R_drew)); exact (Kd.R_mono (Kd.R_far (p := ⟨gb1374, 1, none⟩) (Kd.R_far (p := ⟨gb1374, 0, none⟩) (Kd.R_types HO_1369001.out BK1374.out (by decide)) (fun _ hk => hk.2) (.int .i64 t1383)) (fun _ hk => hk.2) (.slice Ao65 t1384.length co65)) (fun _ h_ => h_.1))) (Kd.R_base ho0) hb); replace HO1386 := am (Kd.R_elder' (by (with_reducible repeat (first | apply Kd.R_alloc | apply Kd.R_drewN | apply Kd.R_drew)); exact (Kd.R_mono (Kd.R_far (p := ⟨gb1374, 1, none⟩) (Kd.R_far (p := ⟨gb1374, 0, none⟩) (Kd.R_types HO1386.out BK1374.out (by decide)) (fun _ hk => hk.2) (.int .i64 t1383)) (fun _ hk => hk.2) (.slice Ao65 t1384.length co65)) (fun _ h_ => h_.1))) (Kd.R_base ho0) hb); replace BK1359 := bb BK1359 hb; replace BK1368 := bb BK1368 hb; replace HI1362 := am (IsS120.below (show IsS120 w ((w63.setCell ⟨gb1374, 0, none⟩ (.int .i64 t1383)).setCell ⟨gb1374, 1, none⟩ (.slice Ao65 t1384.length co65)) g1362 t1360 t1380 from IsS120.now) hb); replace BK1374 := am (blk_below (g := gb1374) (o := .cells #[.int .i64 t1383, .slice Ao65 t1384.length co65] 34 (0, 0)) (by (with_reducible repeat (first | refine blk_drewN ?_ _ | refine blk_drew ?_ | refine blk_alloc ?_ _)); refine blk_put (cs := #[.int .i64 t1383, .slice (some ad1377) t1369.length co39]) ?_ 1 _ rfl; (with_reducible repeat (first | refine blk_drewN ?_ _ | refine blk_drew ?_ | refine blk_alloc ?_ _)); refine blk_put (cs := #[.int .i64 t1363, .slice (some ad1377) t1369.length co39]) ?_ 0 _ rfl; (with_reducible repeat (first | refine blk_drewN ?_ _ | refine blk_drew ?_ | refine blk_alloc ?_ _)); exact BK1374.out) hb); replace BK1378 := bb BK1378 hb; replace BK1382 := bb BK1382 hb; replace HB := bs HB hb; (try clear hb); (try clear ho0)) | ((with_reducible refine gate_dst (N := 10) rfl ?_); refine be_ 10 #[.int .i64 0, .slice none 0 0] 34 ?_; intro gb1393 hg w71 hbox hb; replace HO_6 := am (Kd.Q_below (onQ HO_6) hb); replace HO_1369001 := am (Kd.R_below (onR HO_1369001) hb); replace HO1386 := am (Kd.R_below (onR HO1386) hb); replace HO1391 := am (Kd.R_below (onR HO1391) hb); have BK1393 := am hbox; have GW1393 := am (ge_ hg HB); have GE1393 := am (ge_ hg HB); replace HB := bs HB hb; obtain ⟨NB1359_1393, NB1393_1359⟩ := nb_ hg BK1359; replace BK1359 := bb BK1359 hb; obtain ⟨NB1368_1393, NB1393_1368⟩ := nb_ hg BK1368; replace BK1368 := bb BK1368 hb; obtain ⟨NB1374_1393, NB1393_1374⟩ := nb_ hg BK1374; replace BK1374 := bb BK1374 hb; obtain ⟨NB1378_1393, NB1393_1378⟩ := nb_ hg BK1378; replace BK1378 := bb BK1378 hb; obtain ⟨NB1382_1393, NB1393_1382⟩ := nb_ hg BK1382; replace BK1382 := bb BK1382 hb; have NB1362_1393 := am ((by rw [hg]; exact Nat.ne_of_lt (IsS120.lt (show IsS120 w _ g1362 t1360 t1380 from IsS120.now)) : g1362 ≠ gb1393)); have NB1393_1362 := am ((by rw [hg]; exact Nat.ne_of_gt (IsS120.lt (show IsS120 w _ g1362 t1360 t1380 from IsS120.now)) : gb1393 ≠ g1362)); replace HI1362 := am (IsS120.below (IsS120.now) hb); clear hb hbox hg; obtain ⟨hnb72, hnc72⟩ := n2 NB1393_1359 NB1359_1393; obtain ⟨hnb73, hnc73⟩ := n2 NB1393_1368 NB1368_1393; obtain ⟨hnb74, hnc74⟩ := n2 NB1393_1374 NB1374_1393; obtain ⟨hnb75, hnc75⟩ := n2 NB1393_1378 NB1378_1393; obtain ⟨hnb76, hnc76⟩ := n2 NB1393_1382 NB1382_1393; obtain ⟨hnb77, hnc77⟩ := n2 NB1393_1362 NB1362_1393; obtain ⟨hcz78_0, hcz78_1, hfz78_0, hfz78_1⟩ := c2 BK1393; obtain ⟨Ao79, co79, eo79⟩ := Kd.R_slice HO1391.out; subst eo79))
     have n0_ : Aside0 (Kd.Q k73 73 ((w71.setCell ⟨gb1393, 0, none⟩ (.int .i64 t1388)).setCell ⟨gb1393, 1, none⟩ (.slice Ao79 t1389.length co79)) w.heap.size (fun k_ => some k_ ≠ (.slice (some ad1381) t1364.length co13 : Value).ownBlock ∧ some k_ ≠ (.slice Ao65 t1384.length co65 : Value).ownBlock ∧ some k_ ≠ (.slice Ao79 t1389.length co79 : Value).ownBlock ∧ k_ ≠ gb1378 ∧ k_ ≠ gb1382) (.slice (some ad1377) t1369.length co39) t1369) := ⟨by (with_reducible repeat (first | apply Kd.Q_alloc | apply Kd.Q_drewN | apply Kd.Q_drew)); exact Kd.Q_mono (Kd.Q_far (p := ⟨gb1393, 1, none⟩) (Kd.Q_far (p := ⟨gb1393, 0, none⟩) (Kd.Q_types HO_6.out BK1393.out (by decide)) (fun _ hk => hk.2) (.int .i64 t1388)) (fun _ hk => hk.2) (.slice Ao79 t1389.length co79)) (fun _ hk => ⟨hk.1.1.1.1, ⟨hk.1.1.2, ⟨hk.1.2, ⟨hk.1.1.1.2.1, hk.1.1.1.2.2⟩⟩⟩⟩)⟩
     have n1_ : Aside0 (Kd.R k73 73 ((w71.setCell ⟨gb1393, 0, none⟩ (.int .i64 t1388)).setCell ⟨gb1393, 1, none⟩ (.slice Ao79 t1389.length co79)) w.heap.size (fun k_ => some k_ ≠ (.slice (some ad1377) t1369.length co39 : Value).ownBlock ∧ some k_ ≠ (.slice Ao65 t1384.length co65 : Value).ownBlock ∧ some k_ ≠ (.slice Ao79 t1389.length co79 : Value).ownBlock ∧ k_ ≠ gb1378 ∧ k_ ≠ gb1382) (.slice (some ad1381) t1364.length co13) t1364) := ⟨by (with_reducible repeat (first | apply Kd.R_alloc | apply Kd.R_drewN | apply Kd.R_drew)); exact Kd.R_mono (Kd.R_far (p := ⟨gb1393, 1, none⟩) (Kd.R_far (p := ⟨gb1393, 0, none⟩) (Kd.R_types HO_1369001.out BK1393.out (by decide)) (fun _ hk => hk.2) (.int .i64 t1388)) (fun _ hk => hk.2) (.slice Ao79 t1389.length co79)) (fun _ hk => ⟨hk.1.1.1.1, ⟨hk.1.1.2, ⟨hk.1.2, ⟨hk.1.1.1.2.1, hk.1.1.1.2.2⟩⟩⟩⟩)⟩
     have n2_ : Aside0 (Kd.R k73 73 ((w71.setCell ⟨gb1393, 0, none⟩ (.int .i64 t1388)).setCell ⟨gb1393, 1, none⟩ (.slice Ao79 t1389.length co79)) w.heap.size (fun k_ => some k_ ≠ (.slice (some ad1377) t1369.length co39 : Value).ownBlock ∧ some k_ ≠ (.slice (some ad1381) t1364.length co13 : Value).ownBlock ∧ some k_ ≠ (.slice Ao79 t1389.length co79 : Value).ownBlock ∧ k_ ≠ gb1378 ∧ k_ ≠ gb1382) (.slice Ao65 t1384.length co65) t1384) := ⟨by (with_reducible repeat (first | apply Kd.R_alloc | apply Kd.R_drewN | apply Kd.R_drew)); exact Kd.R_mono (Kd.R_far (p := ⟨gb1393, 1, none⟩) (Kd.R_far (p := ⟨gb1393, 0, none⟩) (Kd.R_types HO1386.out BK1393.out (by decide)) (fun _ hk => hk.2) (.int .i64 t1388)) (fun _ hk => hk.2) (.slice Ao79 t1389.length co79)) (fun _ hk => ⟨hk.1.1.1.1.1.2, ⟨hk.1.1.1.1.2, ⟨hk.1.2, ⟨hk.1.1.1.2, hk.1.1.2⟩⟩⟩⟩)⟩
     have n3_ : Aside0 (Kd.R k73 73 ((w71.setCell ⟨gb1393, 0, none⟩ (.int .i64 t1388)).setCell ⟨gb1393, 1, none⟩ (.slice Ao79 t1389.length co79)) w.heap.size (fun k_ => some k_ ≠ (.slice (some ad1377) t1369.length co39 : Value).ownBlock ∧ some k_ ≠ (.slice (some ad1381) t1364.length co13 : Value).ownBlock ∧ some k_ ≠ (.slice Ao65 t1384.length co65 : Value).ownBlock ∧ k_ ≠ gb1378 ∧ k_ ≠ gb1382) (.slice Ao79 t1389.length co79) t1389) := ⟨by (with_reducible repeat (first | apply Kd.R_alloc | apply Kd.R_drewN | apply Kd.R_drew)); exact Kd.R_mono (Kd.R_far (p := ⟨gb1393, 1, none⟩) (Kd.R_far (p := ⟨gb1393, 0, none⟩) (Kd.R_types HO1391.out BK1393.out (by decide)) (fun _ hk => hk.2) (.int .i64 t1388)) (fun _ hk => hk.2) (.slice Ao79 t1389.length co79)) (fun _ hk => ⟨hk.1.1.1.1.1.2, ⟨hk.1.1.1.1.2, ⟨hk.1.1.1.2, ⟨hk.1.1.2, hk.1.2⟩⟩⟩⟩)⟩
     have n4_ : Aside0 (((w71.setCell ⟨gb1393, 0, none⟩ (.int .i64 t1388)).setCell ⟨gb1393, 1, none⟩ (.slice Ao79 t1389.length co79)).heap[gb1359]? = some (.cells #[.int .i64 0, .slice none 0 0] 34 (0, 0))) := ⟨bkn BK1359⟩
     have n5_ : Aside0 (((w71.setCell ⟨gb1393, 0, none⟩ (.int .i64 t1388)).setCell ⟨gb1393, 1, none⟩ (.slice Ao79 t1389.length co79)).heap[gb1368]? = some (.cells #[.int .i64 t1363, .slice (some ad1381) t1364.length co13] 34 (0, 0))) := ⟨bkn BK1368⟩
     have n6_ : Aside0 (((w71.setCell ⟨gb1393, 0, none⟩ (.int .i64 t1388)).setCell ⟨gb1393, 1, none⟩ (.slice Ao79 t1389.length co79)).heap[gb1374]? = some (.cells #[.int .i64 t1383, .slice Ao65 t1384.length co65] 34 (0, 0))) := ⟨bkn BK1374⟩
     have n7_ : Aside0 (((w71.setCell ⟨gb1393, 0, none⟩ (.int .i64 t1388)).setCell ⟨gb1393, 1, none⟩ (.slice Ao79 t1389.length co79)).heap[gb1378]? = some (.cells #[.int .i64 ((rd_T73 t1369 t1375).f0), .int .i64 ((rd_T73 t1369 t1375).f1)] 73 (0, 0))) := ⟨bkn BK1378⟩
     have n8_ : Aside0 (((w71.setCell ⟨gb1393, 0, none⟩ (.int .i64 t1388)).setCell ⟨gb1393, 1, none⟩ (.slice Ao79 t1389.length co79)).heap[gb1382]? = some (.cells #[.int .i64 ((rd_T73 t1364 t1379).f0), .int .i64 ((rd_T73 t1364 t1379).f1)] 73 (0, 0))) := ⟨bkn BK1382⟩
     have n9_ : Aside0 (((w71.setCell ⟨gb1393, 0, none⟩ (.int .i64 t1388)).setCell ⟨gb1393, 1, none⟩ (.slice Ao79 t1389.length co79)).heap[gb1393]? = some (.cells #[.int .i64 t1388, .slice Ao79 t1389.length co79] 34 (0, 0))) := ⟨by (with_reducible repeat (first | refine blk_drewN ?_ _ | refine blk_drew ?_ | refine blk_alloc ?_ _)); refine blk_put (cs := #[.int .i64 t1388, .slice none 0 0]) ?_ 1 _ rfl; (with_reducible repeat (first | refine blk_drewN ?_ _ | refine blk_drew ?_ | refine blk_alloc ?_ _)); refine blk_put (cs := #[.int .i64 0, .slice none 0 0]) ?_ 0 _ rfl; (with_reducible repeat (first | refine blk_drewN ?_ _ | refine blk_drew ?_ | refine blk_alloc ?_ _)); exact BK1393.out⟩
     have n10_ : Aside0 (IsS120 w ((w71.setCell ⟨gb1393, 0, none⟩ (.int .i64 t1388)).setCell ⟨gb1393, 1, none⟩ (.slice Ao79 t1389.length co79)) g1362 t1360 t1380) := ⟨IsS120.now⟩
     have n11_ : Aside0 (Below w.heap.size w ((w71.setCell ⟨gb1393, 0, none⟩ (.int .i64 t1388)).setCell ⟨gb1393, 1, none⟩ (.slice Ao79 t1389.length co79))) := ⟨bn HB⟩
     (try clear HO_6)
     (try clear HO_1369001)
     (try clear HO1386)
     (try clear HO1391)
     (try clear BK1359)
     (try clear BK1368)
     (try clear BK1374)
     (try clear BK1378)
     (try clear BK1382)
     (try clear BK1393)
     (try clear HI1362)
     (try clear HB)
     generalize ((w71.setCell ⟨gb1393, 0, none⟩ (.int .i64 t1388)).setCell ⟨gb1393, 1, none⟩ (.slice Ao79 t1389.length co79)) = w80 at n0_ n1_ n2_ n3_ n4_ n5_ n6_ n7_ n8_ n9_ n10_ n11_ ⊢
     have HO_6 := n0_
     have HO_1369001 := n1_
     have HO1386 := n2_
     have HO1391 := n3_
     have BK1359 := n4_
     have BK1368 := n5_
     have BK1374 := n6_
     have BK1378 := n7_
     have BK1382 := n8_
     have BK1393 := n9_
     have HI1362 := n10_
     have HB := n11_
     clear n0_ n1_ n2_ n3_ n4_ n5_ n6_ n7_ n8_ n9_ n10_ n11_
     replace HO_6 := am (Kd.Q_drew HO_6.out)
     replace HO_1369001 := am (Kd.R_drew HO_1369001.out)
     replace HO1386 := am (Kd.R_drew HO1386.out)
     replace HO1391 := am (Kd.R_drew HO1391.out)
     replace BK1359 := am (blk_drew BK1359.out)
     replace BK1368 := am (blk_drew BK1368.out)
     replace BK1374 := am (blk_drew BK1374.out)
     replace BK1378 := am (blk_drew BK1378.out)
     replace BK1382 := am (blk_drew BK1382.out)
     replace BK1393 := am (blk_drew BK1393.out)
     replace HI1362 := am (IsS120.drew HI1362.out)
     replace HB := am (below_drew1 HB.out)
     refine start_ (n := 5) (S := fun w' => w'.cell? ⟨gb1368, 0, none⟩ = some (.int .i64 t1363) ∧ w'.cell? ⟨gb1368, 1, none⟩ = some (.slice (some ad1381) t1364.length co13) ∧ w'.cell? ⟨gb1393, 0, none⟩ = some (.int .i64 t1388) ∧ w'.cell? ⟨gb1393, 1, none⟩ = some (.slice Ao79 t1389.length co79)) (ds := []) #[false, false, false, false, false] (by kernel_rfl) rfl rfl ⟨(bc BK1368 0), (bc BK1368 1), (bc BK1393 0), (bc BK1393 1)⟩ (fun hHeld => ?_)
     generalize w80.drew = w81 at HO_6 HO_1369001 HO1386 HO1391 BK1359 BK1368 BK1374 BK1378 BK1382 BK1393 HI1362 HB hHeld ⊢
     refine pure_ (i := 1) (N := some 74) (v := ?_) (a' := ?_) #[false, true, false, false, false] rfl rfl (by kernel_rfl) (fun _ _ _ h => h) (Or.inl ⟨by rfl, ?_⟩) ?_ ?_; rotate_left; (intro w'; go_simp; with_reducible rfl); rotate_left; (simp only [Act.put, List.setIfInBounds_toArray, List.set_cons_zero, List.set_cons_succ, i64_w, i32_w]; rfl)
     refine take_ (i := 0) (N := some 73) (v := ?_) (a' := ?_) #[true, true, false, false, false] rfl rfl (by kernel_rfl) (fun _ _ _ h => h) (Or.inl ⟨by rfl, ?_⟩) hHeld ?_ ?_; rotate_left; (rintro w' ⟨s0, s1, s2, s3⟩; go_simp; with_reducible rfl); rotate_left; (simp only [Act.put, List.setIfInBounds_toArray, List.set_cons_zero, List.set_cons_succ, i64_w, i32_w]; rfl)
     refine take_ (i := 2) (N := some 75) (v := ?_) (a' := ?_) #[true, true, true, false, false] rfl rfl (by kernel_rfl) (fun _ _ _ h => h) (Or.inl ⟨by rfl, ?_⟩) hHeld ?_ ?_; rotate_left; (rintro w' ⟨s0, s1, s2, s3⟩; go_simp; with_reducible rfl); rotate_left; (simp only [Act.put, List.setIfInBounds_toArray, List.set_cons_zero, List.set_cons_succ, i64_w, i32_w]; rfl)
     refine one_ (i := 3) (N := none) #[true, true, true, true, false] rfl rfl (by kernel_rfl) (by decide) (fun K hK => ?_)
     have hs82 := bc BK1359 0
     have hfs82 := blk_frozen BK1359.out 0
     have hns82_1 := NB1368_1359.out
     have hns82_2 := NB1374_1359.out
     have hns82_3 := NB1378_1359.out
     have hns82_4 := NB1382_1359.out
     have hns82_5 := NB1393_1359.out
     have hms82_1 := NB1359_1368.out
     have hms82_2 := NB1359_1374.out
     have hms82_3 := NB1359_1378.out
     have hms82_4 := NB1359_1382.out
     have hms82_5 := NB1359_1393.out
     have hs83 := bc BK1359 1
     have hfs83 := blk_frozen BK1359.out 1
     have hns83_1 := NB1368_1359.out
     have hns83_2 := NB1374_1359.out
     have hns83_3 := NB1378_1359.out
     have hns83_4 := NB1382_1359.out
     have hns83_5 := NB1393_1359.out
     have hms83_1 := NB1359_1368.out
     have hms83_2 := NB1359_1374.out
     have hms83_3 := NB1359_1378.out
     have hms83_4 := NB1359_1382.out
     have hms83_5 := NB1359_1393.out
     refine skip_ (w1 := ?_) (by rfl) rfl ?_ ?_
     rotate_left
     ·go_simp
      rfl
     refine hK.out _ _ ⟨((cell_far (p := ⟨gb1359, _, none⟩) NB1368_1359.out _).trans (((cell_far (p := ⟨gb1359, _, none⟩) NB1368_1359.out _).trans (hHeld.1)))), ((cell_far (p := ⟨gb1359, _, none⟩) NB1368_1359.out _).trans (((cell_far (p := ⟨gb1359, _, none⟩) NB1368_1359.out _).trans (hHeld.2.1)))), ((cell_far (p := ⟨gb1359, _, none⟩) NB1393_1359.out _).trans (((cell_far (p := ⟨gb1359, _, none⟩) NB1393_1359.out _).trans (hHeld.2.2.1)))), ((cell_far (p := ⟨gb1359, _, none⟩) NB1393_1359.out _).trans (((cell_far (p := ⟨gb1359, _, none⟩) NB1393_1359.out _).trans (hHeld.2.2.2))))⟩ (fun hHeld => ?_)
     clear hK K
     refine pure_ (i := 4) (N := some 3) (v := ?_) (a' := ?_) #[true, true, true, true, true] rfl rfl (by kernel_rfl) (fun _ _ _ h => h) (Or.inl ⟨by rfl, ?_⟩) ?_ ?_; rotate_left; (intro w'; go_simp; with_reducible rfl); rotate_left; (simp only [Act.put, List.setIfInBounds_toArray, List.set_cons_zero, List.set_cons_succ, i64_w, i32_w]; rfl)
     refine done_ (by kernel_rfl) ?_
     try go_wp2
     refine bodyPost_ret (results_ct rfl _ _ gb1359 34 #[.int .i64 t1363, .slice (some ad1381) t1364.length co13] (0, 0) _ rfl (by (with_reducible repeat (first | refine blk_drewN ?_ _ | refine blk_drew ?_ | refine blk_alloc ?_ _)); refine blk_put (cs := #[.int .i64 t1363, .slice none 0 0]) ?_ 1 _ rfl; (with_reducible repeat (first | refine blk_drewN ?_ _ | refine blk_drew ?_ | refine blk_alloc ?_ _)); refine blk_put (cs := #[.int .i64 0, .slice none 0 0]) ?_ 0 _ rfl; (with_reducible repeat (first | refine blk_drewN ?_ _ | refine blk_drew ?_ | refine blk_alloc ?_ _)); exact BK1359.out) Try.underlying34 rfl (by kernel_rfl)) rfl ?_
     exact ⟨_, _, by first | rfl | (simp [errW_none, errW_some] <;> rfl) | (simp [*, errW_none, errW_some] <;> rfl), by (with_reducible repeat (first | apply Kd.R_alloc | apply Kd.R_drewN | apply Kd.R_drew)); exact Kd.R_mono (Kd.R_far (p := ⟨gb1359, 1, none⟩) (Kd.R_far (p := ⟨gb1359, 0, none⟩) (Kd.R_types HO_1369001.out BK1359.out (by decide)) (fun _ hk => hk.2) (.int .i64 t1363)) (fun _ hk => hk.2) (.slice (some ad1381) t1364.length co13)) (fun _ hk => hk.1.2.2.1), Kd.Q_of_R (by (with_reducible repeat (first | apply Kd.R_alloc | apply Kd.R_drewN | apply Kd.R_drew)); exact Kd.R_mono (Kd.R_far (p := ⟨gb1359, 1, none⟩) (Kd.R_far (p := ⟨gb1359, 0, none⟩) (Kd.R_types HO1391.out BK1359.out (by decide)) (fun _ hk => hk.2) (.int .i64 t1363)) (fun _ hk => hk.2) (.slice (some ad1381) t1364.length co13)) (fun _ hk => hk.1.2.1)), bn HB⟩
    ·replace c35 := Bool.eq_false_iff.mpr c35
     subst c35
     rw [if_neg (show ¬ (false = true) by decide)] at H
     simp only [Option.some.injEq, Prod.mk.injEq] at H
     obtain ⟨rfl, rfl, rfl⟩ := H
     obtain ⟨hnb84, hnc84⟩ := n2 NB1368_1359 NB1359_1368
     obtain ⟨hnb85, hnc85⟩ := n2 NB1368_1362 NB1362_1368
     obtain ⟨hcz86_0, hcz86_1, hfz86_0, hfz86_1⟩ := c2 BK1368
     obtain ⟨Ao87, co87, eo87, _⟩ := Kd.Q_slice HO_6.out
     subst eo87
     try go_wp2_with (first | ((with_reducible refine gate_dst (N := 7) rfl ?_); refine be_ 7 #[.int .i64 0, .slice none 0 0] 34 ?_; intro gb1374 hg w88 hbox hb; replace HO_6 := am (Kd.Q_below (onQ HO_6) hb); replace HO_1369001 := am (Kd.R_below (onR HO_1369001) hb); have BK1374 := am hbox; have GW1374 := am (ge_ hg HB); have GE1374 := am (ge_ hg HB); replace HB := bs HB hb; obtain ⟨NB1359_1374, NB1374_1359⟩ := nb_ hg BK1359; replace BK1359 := bb BK1359 hb; obtain ⟨NB1368_1374, NB1374_1368⟩ := nb_ hg BK1368; replace BK1368 := bb BK1368 hb; have NB1362_1374 := am ((by rw [hg]; exact Nat.ne_of_lt (IsS120.lt (show IsS120 w _ g1362 t1360 x1363001_4 from IsS120.now)) : g1362 ≠ gb1374)); have NB1374_1362 := am ((by rw [hg]; exact Nat.ne_of_gt (IsS120.lt (show IsS120 w _ g1362 t1360 x1363001_4 from IsS120.now)) : gb1374 ≠ g1362)); replace HI1362 := am (IsS120.below (IsS120.now) hb); clear hb hbox hg; obtain ⟨hnb89, hnc89⟩ := n2 NB1374_1359 NB1359_1374; obtain ⟨hnb90, hnc90⟩ := n2 NB1374_1368 NB1368_1374; obtain ⟨hnb91, hnc91⟩ := n2 NB1374_1362 NB1362_1374; obtain ⟨hcz92_0, hcz92_1, hfz92_0, hfz92_1⟩ := c2 BK1374) | ((with_reducible refine gate_callee (f := 126) rfl ?_); refine gl_ (some 42) Try.func126 #[.pointer (some ⟨g1362, 0, none⟩), .int .i64 (t1369.length : Int)] ?_; (with_reducible refine (spec_l6Rd_pick.calls kj4 g1362 t1360 x1363001_4 (t1369.length : Int) t1375 t1376 w _ ?side1 ?side2 A27.out).mono ?_); (case side1 => exact IsS120.now); (case side2 => exact bn HB); rintro e w93 ⟨rfl, hi, hb, hk⟩; refine ⟨_, rfl, ?_⟩; replace HO_6 := am (Kd.Q_mono (Kd.Q_keep (IsS120.apartQ (show IsS120 w _ g1362 t1360 x1363001_4 from IsS120.now) (by (with_reducible repeat (first | apply Kd.Q_alloc | apply Kd.Q_drewN | apply Kd.Q_drew)); exact (Kd.Q_mono (Kd.Q_far (p := ⟨gb1374, 1, none⟩) (Kd.Q_far (p := ⟨gb1374, 0, none⟩) (Kd.Q_types HO_6.out BK1374.out (by decide)) (fun _ hk => hk.2) (.int .i64 t1363)) (fun _ hk => hk.2) (.slice Ao87 t1369.length co87)) (fun _ h_ => h_.1))) (by decide)) hk (fun _ h => h.2)) (fun _ h => h.1)); replace HO_1369001 := am (Kd.R_mono (Kd.R_keep (IsS120.apart (show IsS120 w _ g1362 t1360 x1363001_4 from IsS120.now) (by (with_reducible repeat (first | apply Kd.R_alloc | apply Kd.R_drewN | apply Kd.R_drew)); exact (Kd.R_mono (Kd.R_far (p := ⟨gb1374, 1, none⟩) (Kd.R_far (p := ⟨gb1374, 0, none⟩) (Kd.R_types HO_1369001.out BK1374.out (by decide)) (fun _ hk => hk.2) (.int .i64 t1363)) (fun _ hk => hk.2) (.slice Ao87 t1369.length co87)) (fun _ h_ => h_.1))) (by decide)) hk (fun _ h => h.2)) (fun _ h => h.1)); replace BK1359 := am (KeepBut.blk hk (bkn BK1359) NB1359_1362.out (by simp)); replace BK1368 := am (KeepBut.blk hk (bkn BK1368) NB1368_1362.out (by simp)); replace BK1374 := am (KeepBut.blk hk (g' := gb1374) (o := .cells #[.int .i64 t1363, .slice Ao87 t1369.length co87] 34 (0, 0)) (by (with_reducible repeat (first | refine blk_drewN ?_ _ | refine blk_drew ?_ | refine blk_alloc ?_ _)); refine blk_put (cs := #[.int .i64 t1363, .slice none 0 0]) ?_ 1 _ rfl; (with_reducible repeat (first | refine blk_drewN ?_ _ | refine blk_drew ?_ | refine blk_alloc ?_ _)); refine blk_put (cs := #[.int .i64 0, .slice none 0 0]) ?_ 0 _ rfl; (with_reducible repeat (first | refine blk_drewN ?_ _ | refine blk_drew ?_ | refine blk_alloc ?_ _)); exact BK1374.out) NB1374_1362.out (by simp)); replace HB := am hb; replace HI1362 := am hi; (try clear hb); (try clear hk); (try clear hi); have p1377 : 0 ≤ (t1375 : Int) := oa; have q1377 : t1375 < (t1369.length : Int) := oa; obtain ⟨ad1377, e1377, hx1377_0, hx1377_1⟩ := at_T73 (Kd.Q_reads' HO_6.out).2.2 t1375 p1377 q1377; cases e1377; replace p1377 := eq_true p1377; replace q1377 := eq_true q1377) | ((with_reducible refine gate_dst (N := 8) rfl ?_); refine be_ 8 #[.int .i64 0, .int .i64 0] 73 ?_; intro gb1378 hg w94 hbox hb; replace HO_6 := am (Kd.Q_below (Kd.Q_elderB (onQ HO_6) gb1378 (Nat.le_of_eq hg.symm)) hb); replace HO_1369001 := am (Kd.R_below (Kd.R_elderB (onR HO_1369001) gb1378 (Nat.le_of_eq hg.symm)) hb); have BK1378 := am hbox; have GW1378 := am (ge_ hg HB); have GE1378 := am (ge_ hg HB); replace HB := bs HB hb; obtain ⟨NB1359_1378, NB1378_1359⟩ := nb_ hg BK1359; replace BK1359 := bb BK1359 hb; obtain ⟨NB1368_1378, NB1378_1368⟩ := nb_ hg BK1368; replace BK1368 := bb BK1368 hb; obtain ⟨NB1374_1378, NB1378_1374⟩ := nb_ hg BK1374; replace BK1374 := bb BK1374 hb; have NB1362_1378 := am ((by rw [hg]; exact Nat.ne_of_lt (IsS120.lt (show IsS120 w _ g1362 t1360 t1376 from IsS120.now)) : g1362 ≠ gb1378)); have NB1378_1362 := am ((by rw [hg]; exact Nat.ne_of_gt (IsS120.lt (show IsS120 w _ g1362 t1360 t1376 from IsS120.now)) : gb1378 ≠ g1362)); replace HI1362 := am (IsS120.below (IsS120.now) hb); clear hb hbox hg; obtain ⟨hnb95, hnc95⟩ := n2 NB1378_1359 NB1359_1378; obtain ⟨hnb96, hnc96⟩ := n2 NB1378_1368 NB1368_1378; obtain ⟨hnb97, hnc97⟩ := n2 NB1378_1374 NB1374_1378; obtain ⟨hnb98, hnc98⟩ := n2 NB1378_1362 NB1362_1378; obtain ⟨hcz99_0, hcz99_1, hfz99_0, hfz99_1⟩ := c2 BK1378))
     have n0_ : Aside0 (Kd.Q k73 73 ((w94.setCell ⟨gb1378, 0, none⟩ (.int .i64 ((rd_T73 t1369 t1375).f0))).setCell ⟨gb1378, 1, none⟩ (.int .i64 ((rd_T73 t1369 t1375).f1))) w.heap.size (fun k_ => some k_ ≠ (.slice Ao13 t1364.length co13 : Value).ownBlock ∧ k_ ≠ gb1378) (.slice (some ad1377) t1369.length co87) t1369) := ⟨by (with_reducible repeat (first | apply Kd.Q_alloc | apply Kd.Q_drewN | apply Kd.Q_drew)); exact Kd.Q_mono (Kd.Q_far (p := ⟨gb1378, 1, none⟩) (Kd.Q_far (p := ⟨gb1378, 0, none⟩) (Kd.Q_mono HO_6.out (fun k_ hk => (⟨hk, hk.2⟩ : _ ∧ k_ ≠ gb1378))) (fun _ hk => hk.2) (.int .i64 ((rd_T73 t1369 t1375).f0))) (fun _ hk => hk.2) (.int .i64 ((rd_T73 t1369 t1375).f1))) (fun _ hk => ⟨hk.1.1, hk.1.2⟩)⟩
     have n1_ : Aside0 (Kd.R k73 73 ((w94.setCell ⟨gb1378, 0, none⟩ (.int .i64 ((rd_T73 t1369 t1375).f0))).setCell ⟨gb1378, 1, none⟩ (.int .i64 ((rd_T73 t1369 t1375).f1))) w.heap.size (fun k_ => some k_ ≠ (.slice (some ad1377) t1369.length co87 : Value).ownBlock ∧ k_ ≠ gb1378) (.slice Ao13 t1364.length co13) t1364) := ⟨by (with_reducible repeat (first | apply Kd.R_alloc | apply Kd.R_drewN | apply Kd.R_drew)); exact Kd.R_mono (Kd.R_far (p := ⟨gb1378, 1, none⟩) (Kd.R_far (p := ⟨gb1378, 0, none⟩) (Kd.R_mono HO_1369001.out (fun k_ hk => (⟨hk, hk.2⟩ : _ ∧ k_ ≠ gb1378))) (fun _ hk => hk.2) (.int .i64 ((rd_T73 t1369 t1375).f0))) (fun _ hk => hk.2) (.int .i64 ((rd_T73 t1369 t1375).f1))) (fun _ hk => ⟨hk.1.1, hk.1.2⟩)⟩
     have n2_ : Aside0 (((w94.setCell ⟨gb1378, 0, none⟩ (.int .i64 ((rd_T73 t1369 t1375).f0))).setCell ⟨gb1378, 1, none⟩ (.int .i64 ((rd_T73 t1369 t1375).f1))).heap[gb1359]? = some (.cells #[.int .i64 0, .slice none 0 0] 34 (0, 0))) := ⟨bkn BK1359⟩
     have n3_ : Aside0 (((w94.setCell ⟨gb1378, 0, none⟩ (.int .i64 ((rd_T73 t1369 t1375).f0))).setCell ⟨gb1378, 1, none⟩ (.int .i64 ((rd_T73 t1369 t1375).f1))).heap[gb1368]? = some (.cells #[.int .i64 t1363, .slice Ao13 t1364.length co13] 34 (0, 0))) := ⟨bkn BK1368⟩
     have n4_ : Aside0 (((w94.setCell ⟨gb1378, 0, none⟩ (.int .i64 ((rd_T73 t1369 t1375).f0))).setCell ⟨gb1378, 1, none⟩ (.int .i64 ((rd_T73 t1369 t1375).f1))).heap[gb1374]? = some (.cells #[.int .i64 t1363, .slice (some ad1377) t1369.length co87] 34 (0, 0))) := ⟨bkn BK1374⟩
     have n5_ : Aside0 (((w94.setCell ⟨gb1378, 0, none⟩ (.int .i64 ((rd_T73 t1369 t1375).f0))).setCell ⟨gb1378, 1, none⟩ (.int .i64 ((rd_T73 t1369 t1375).f1))).heap[gb1378]? = some (.cells #[.int .i64 ((rd_T73 t1369 t1375).f0), .int .i64 ((rd_T73 t1369 t1375).f1)] 73 (0, 0))) := ⟨by (with_reducible repeat (first | refine blk_drewN ?_ _ | refine blk_drew ?_ | refine blk_alloc ?_ _)); refine blk_put (cs := #[.int .i64 ((rd_T73 t1369 t1375).f0), .int .i64 0]) ?_ 1 _ rfl; (with_reducible repeat (first | refine blk_drewN ?_ _ | refine blk_drew ?_ | refine blk_alloc ?_ _)); refine blk_put (cs := #[.int .i64 0, .int .i64 0]) ?_ 0 _ rfl; (with_reducible repeat (first | refine blk_drewN ?_ _ | refine blk_drew ?_ | refine blk_alloc ?_ _)); exact BK1378.out⟩
     have n6_ : Aside0 (IsS120 w ((w94.setCell ⟨gb1378, 0, none⟩ (.int .i64 ((rd_T73 t1369 t1375).f0))).setCell ⟨gb1378, 1, none⟩ (.int .i64 ((rd_T73 t1369 t1375).f1))) g1362 t1360 t1376) := ⟨IsS120.now⟩
     have n7_ : Aside0 (Below w.heap.size w ((w94.setCell ⟨gb1378, 0, none⟩ (.int .i64 ((rd_T73 t1369 t1375).f0))).setCell ⟨gb1378, 1, none⟩ (.int .i64 ((rd_T73 t1369 t1375).f1)))) := ⟨bn HB⟩
     (try clear HO_6)
     (try clear HO_1369001)
     (try clear BK1359)
     (try clear BK1368)
     (try clear BK1374)
     (try clear BK1378)
     (try clear HI1362)
     (try clear HB)
     generalize ((w94.setCell ⟨gb1378, 0, none⟩ (.int .i64 ((rd_T73 t1369 t1375).f0))).setCell ⟨gb1378, 1, none⟩ (.int .i64 ((rd_T73 t1369 t1375).f1))) = w100 at n0_ n1_ n2_ n3_ n4_ n5_ n6_ n7_ ⊢
     have HO_6 := n0_
     have HO_1369001 := n1_
     have BK1359 := n2_
     have BK1368 := n3_
     have BK1374 := n4_
     have BK1378 := n5_
     have HI1362 := n6_
     have HB := n7_
     clear n0_ n1_ n2_ n3_ n4_ n5_ n6_ n7_
     replace HO_6 := am (Kd.Q_drew HO_6.out)
     replace HO_1369001 := am (Kd.R_drew HO_1369001.out)
     replace BK1359 := am (blk_drew BK1359.out)
     replace BK1368 := am (blk_drew BK1368.out)
     replace BK1374 := am (blk_drew BK1374.out)
     replace BK1378 := am (blk_drew BK1378.out)
     replace HI1362 := am (IsS120.drew HI1362.out)
     replace HB := am (below_drew1 HB.out)
     have p1381 : 0 ≤ (t1379 : Int) := oa
     have q1381 : t1379 < (t1364.length : Int) := oa
     obtain ⟨ad1381, e1381, hx1381_0, hx1381_1⟩ := at_T73 (Kd.R_reads' HO_1369001.out).2.2 t1379 p1381 q1381
     cases e1381
     replace p1381 := eq_true p1381
     replace q1381 := eq_true q1381
     refine start_ (n := 11) (S := fun w' => w'.cell? ⟨gb1368, 0, none⟩ = some (.int .i64 t1363) ∧ w'.cell? ⟨gb1368, 1, none⟩ = some (.slice (some ad1381) t1364.length co13) ∧ w'.cell? (ad1381.add ((t1379).toNat * 2)) = some (.int .i64 ((rd_T73 t1364 t1379).f0)) ∧ w'.cell? ⟨(ad1381.add ((t1379).toNat * 2)).block, (ad1381.add ((t1379).toNat * 2)).off + 1, none⟩ = some (.int .i64 ((rd_T73 t1364 t1379).f1))) (ds := []) #[false, false, false, false, false, false, false, false, false, false, false] (by kernel_rfl) rfl rfl ⟨(bc BK1368 0), (bc BK1368 1), hx1381_0, hx1381_1⟩ (fun hHeld => ?_); refine with_tabW spec_DrawTreeOk.tab7 spec_DrawTreeOk.bits7 (fun HT_ HW_ => ?_)
     generalize w100.drew = w101 at HO_6 HO_1369001 BK1359 BK1368 BK1374 BK1378 HI1362 HB hx1381_0 hx1381_1 hHeld ⊢
     refine pz_ 0 (some 45) HT_ ?_
     refine pz_ 2 (some 47) HT_ ?_
     refine pz_ 3 (some 48) HT_ ?_
     refine tz_ 1 (some 46) HT_ HW_ hHeld ?_
     refine tz_ 4 (some 49) HT_ HW_ hHeld ?_
     refine pz_ 5 (some 50) HT_ ?_
     refine join_ (σ := Nat) 1 #[true, true, true, true, true, true, true, true, true, true, false] (fun s_ => [(51, .int .i64 t1379), (9, .pointer (some ⟨s_, 0, none⟩)), (52, .pointer (some (ad1381.add ((t1379).toNat * 2)))), (53, .agg #[.int .i64 ((rd_T73 t1364 t1379).f0), .int .i64 ((rd_T73 t1364 t1379).f1)])]) (fun s_ w' => (w'.cell? ⟨gb1368, 0, none⟩ = some (.int .i64 t1363) ∧ w'.cell? ⟨gb1368, 1, none⟩ = some (.slice (some ad1381) t1364.length co13) ∧ w'.cell? (ad1381.add ((t1379).toNat * 2)) = some (.int .i64 ((rd_T73 t1364 t1379).f0)) ∧ w'.cell? ⟨(ad1381.add ((t1379).toNat * 2)).block, (ad1381.add ((t1379).toNat * 2)).off + 1, none⟩ = some (.int .i64 ((rd_T73 t1364 t1379).f1))) ∧ (Kd.R k73 73 w' w.heap.size (fun k_ => some k_ ≠ (.slice (some ad1377) t1369.length co87 : Value).ownBlock ∧ k_ ≠ gb1378 ∧ k_ ≠ s_) (.slice (some ad1381) t1364.length co13) t1364) ∧ (Kd.Q k73 73 w' w.heap.size (fun k_ => some k_ ≠ (.slice (some ad1381) t1364.length co13 : Value).ownBlock ∧ k_ ≠ gb1378 ∧ k_ ≠ s_) (.slice (some ad1377) t1369.length co87) t1369) ∧ (w'.heap[gb1359]? = some (.cells #[.int .i64 0, .slice none 0 0] 34 (0, 0))) ∧ (w'.heap[gb1368]? = some (.cells #[.int .i64 t1363, .slice (some ad1381) t1364.length co13] 34 (0, 0))) ∧ (w'.heap[gb1374]? = some (.cells #[.int .i64 t1363, .slice (some ad1377) t1369.length co87] 34 (0, 0))) ∧ (w'.heap[gb1378]? = some (.cells #[.int .i64 ((rd_T73 t1369 t1375).f0), .int .i64 ((rd_T73 t1369 t1375).f1)] 73 (0, 0))) ∧ (w'.heap[s_]? = some (.cells #[.int .i64 0, .int .i64 0] 73 (0, 0))) ∧ (w.heap.size ≤ s_) ∧ (w.heap.size ≤ s_) ∧ (g1362 ≠ s_) ∧ (s_ ≠ g1362) ∧ (gb1359 ≠ s_) ∧ (s_ ≠ gb1359) ∧ (gb1368 ≠ s_) ∧ (s_ ≠ gb1368) ∧ (gb1374 ≠ s_) ∧ (s_ ≠ gb1374) ∧ (gb1378 ≠ s_) ∧ (s_ ≠ gb1378) ∧ (IsS120 w w' g1362 t1360 t1380) ∧ (Below w.heap.size w w')) ?_ ?_
     rotate_left
     ·intro hCont
      refine two_ (i := 6) (j := 9) (Ni := some 51) (Nj := some 9) #[true, true, true, true, true, true, true, false, false, false, false] #[true, true, true, true, true, true, false, false, false, true, false] rfl rfl rfl rfl (two_of HT_.out (by kernel_rfl)) (by decide) (by decide) (fun K hK => ?_) (fun K hK => ?_)
      ·skip
       refine gg_ Try.func126 #[.pointer (some ⟨g1362, 0, none⟩), .int .i64 (t1364.length : Int)] ?_
       with_reducible refine (spec_l6Rd_pick.calls kj4 g1362 t1360 t1376 (t1364.length : Int) t1379 t1380 w _ ?side1 ?side2 A30.out).mono ?_
       (case side1 => exact IsS120.now)
       (case side2 => exact bn HB)
       rintro e w102 ⟨rfl, hi, hb, hk⟩
       have HS2_ := keep_cell hk (hHeld.2.2.1) (by first | (rw [add_block]; exact Kd.own_blk (IsS120.own_ne HI1362.out HO_1369001.out (by decide))) | (show (Addr.add _ _).block ≠ _; rw [add_block]; exact Kd.own_blk (IsS120.own_ne HI1362.out HO_1369001.out (by decide))) | exact Kd.own_blk (IsS120.own_ne HI1362.out HO_1369001.out (by decide)))
       have HS3_ := keep_cell hk (hHeld.2.2.2) (by first | (rw [add_block]; exact Kd.own_blk (IsS120.own_ne HI1362.out HO_1369001.out (by decide))) | (show (Addr.add _ _).block ≠ _; rw [add_block]; exact Kd.own_blk (IsS120.own_ne HI1362.out HO_1369001.out (by decide))) | exact Kd.own_blk (IsS120.own_ne HI1362.out HO_1369001.out (by decide)))
       refine ⟨_, rfl, ?_⟩
       replace HO_6 := am (Kd.Q_mono (Kd.Q_keep (IsS120.apartQ (show IsS120 w _ g1362 t1360 t1376 from IsS120.now) (onQ HO_6) (by decide)) hk (fun _ h => h.2)) (fun _ h => h.1))
       replace HO_1369001 := am (Kd.R_mono (Kd.R_keep (IsS120.apart (show IsS120 w _ g1362 t1360 t1376 from IsS120.now) (onR HO_1369001) (by decide)) hk (fun _ h => h.2)) (fun _ h => h.1))
       replace BK1359 := am (KeepBut.blk hk (bkn BK1359) NB1359_1362.out (by simp))
       replace BK1368 := am (KeepBut.blk hk (bkn BK1368) NB1368_1362.out (by simp))
       replace BK1374 := am (KeepBut.blk hk (bkn BK1374) NB1374_1362.out (by simp))
       replace BK1378 := am (KeepBut.blk hk (bkn BK1378) NB1378_1362.out (by simp))
       replace HB := am hb
       replace HI1362 := am hi
       (try clear hb)
       (try clear hb2)
       (try clear hk)
       (try clear hi)
       refine hK.out _ _ ⟨(bc BK1368 0), (bc BK1368 1), HS2_, HS3_⟩ (fun hHeld => ?_)
       clear hK K
       refine nz_ 51 ?_
       refine pz_ 7 (some 52) HT_ ?_
       refine tz_ 8 (some 53) HT_ HW_ hHeld ?_
       refine one_ (i := 9) (N := some 9) #[true, true, true, true, true, true, true, true, true, true, false] rfl rfl (one_of HT_.out (by kernel_rfl)) (by decide) (fun K hK => ?_)
       refine box_step ?hg (N := 9) ?hd (cs := #[.int .i64 0, .int .i64 0]) (t := 73) ?hr ?_; (case hd => rfl); (case hg => rfl); (case hr => first | (go_simp; done) | (go_simp; rfl))
       intro gb1382 hg w103 hbox hb
       have HS2_ := (hb.cell (World.block_lt_of_cell? _ _ (hHeld.2.2.1))).trans (hHeld.2.2.1)
       have HS3_ := (hb.cell (World.block_lt_of_cell? _ _ (hHeld.2.2.2))).trans (hHeld.2.2.2)
       have n0_ := am (Kd.Q_below (Kd.Q_elderB (onQ HO_6) gb1382 (Nat.le_of_eq hg.symm)) hb)
       have n1_ := am (Kd.R_below (Kd.R_elderB (onR HO_1369001) gb1382 (Nat.le_of_eq hg.symm)) hb)
       have n2_ := bb BK1359 hb
       have n3_ := bb BK1368 hb
       have n4_ := am (IsS120.below (IsS120.now) hb)
       have n5_ := bb BK1374 hb
       have n6_ := bb BK1378 hb
       have n7_ := bs HB hb
       have n8_ := am hbox
       have n9_ := am (ge_ hg HB)
       have n10_ := am (ge_ hg HB)
       have n11_ := am ((by rw [hg]; exact Nat.ne_of_lt (blk_lt (bkn BK1359)) : gb1359 ≠ gb1382))
       have n12_ := am ((by rw [hg]; exact Nat.ne_of_gt (blk_lt (bkn BK1359)) : gb1382 ≠ gb1359))
       have n13_ := am ((by rw [hg]; exact Nat.ne_of_lt (blk_lt (bkn BK1368)) : gb1368 ≠ gb1382))
       have n14_ := am ((by rw [hg]; exact Nat.ne_of_gt (blk_lt (bkn BK1368)) : gb1382 ≠ gb1368))
       have n15_ := am ((by rw [hg]; exact Nat.ne_of_lt (blk_lt (bkn BK1374)) : gb1374 ≠ gb1382))
       have n16_ := am ((by rw [hg]; exact Nat.ne_of_gt (blk_lt (bkn BK1374)) : gb1382 ≠ gb1374))
       have n17_ := am ((by rw [hg]; exact Nat.ne_of_lt (blk_lt (bkn BK1378)) : gb1378 ≠ gb1382))
       have n18_ := am ((by rw [hg]; exact Nat.ne_of_gt (blk_lt (bkn BK1378)) : gb1382 ≠ gb1378))
       have n19_ := am ((by rw [hg]; exact Nat.ne_of_lt (IsS120.lt (show IsS120 w _ g1362 t1360 t1380 from IsS120.now)) : g1362 ≠ gb1382))
       have n20_ := am ((by rw [hg]; exact Nat.ne_of_gt (IsS120.lt (show IsS120 w _ g1362 t1360 t1380 from IsS120.now)) : gb1382 ≠ g1362))
       clear HO_6 HO_1369001 BK1359 BK1368 HI1362 BK1374 BK1378 HB
       have HO_6 := n0_
       have HO_1369001 := n1_
       have BK1359 := n2_
       have BK1368 := n3_
       have HI1362 := n4_
       have BK1374 := n5_
       have BK1378 := n6_
       have HB := n7_
       have BK1382 := n8_
       have GW1382 := n9_
       have GE1382 := n10_
       have NB1359_1382 := n11_
       have NB1382_1359 := n12_
       have NB1368_1382 := n13_
       have NB1382_1368 := n14_
       have NB1374_1382 := n15_
       have NB1382_1374 := n16_
       have NB1378_1382 := n17_
       have NB1382_1378 := n18_
       have NB1362_1382 := n19_
       have NB1382_1362 := n20_
       clear n0_ n1_ n2_ n3_ n4_ n5_ n6_ n7_ n8_ n9_ n10_ n11_ n12_ n13_ n14_ n15_ n16_ n17_ n18_ n19_ n20_ hb hbox hg
       refine hK.out _ _ ⟨(bc BK1368 0), (bc BK1368 1), HS2_, HS3_⟩ (fun hHeld => ?_)
       clear hK K
       refine nz_ 9 ?_
       exact norm_ (by simp only [putAll, Act.put, List.setIfInBounds_toArray, List.set_cons_zero, List.set_cons_succ]) (hCont (gb1382) _ ⟨hHeld, (by (with_reducible repeat (first | apply Kd.R_alloc | apply Kd.R_drewN | apply Kd.R_drew)); exact Kd.R_mono HO_1369001.out (fun _ hk => ⟨hk.1.1, ⟨hk.1.2, hk.2⟩⟩)), (by (with_reducible repeat (first | apply Kd.Q_alloc | apply Kd.Q_drewN | apply Kd.Q_drew)); exact Kd.Q_mono HO_6.out (fun _ hk => ⟨hk.1.1, ⟨hk.1.2, hk.2⟩⟩)), (bkn BK1359), (bkn BK1368), (bkn BK1374), (bkn BK1378), (bkn BK1382), GW1382.out, GE1382.out, NB1362_1382.out, NB1382_1362.out, NB1359_1382.out, NB1382_1359.out, NB1368_1382.out, NB1382_1368.out, NB1374_1382.out, NB1382_1374.out, NB1378_1382.out, NB1382_1378.out, (IsS120.now), (bn HB)⟩)
      ·skip
       refine box_step ?hg (N := 9) ?hd (cs := #[.int .i64 0, .int .i64 0]) (t := 73) ?hr ?_; (case hd => rfl); (case hg => rfl); (case hr => first | (go_simp; done) | (go_simp; rfl))
       intro gb1382 hg w102 hbox hb
       have HS2_ := (hb.cell (World.block_lt_of_cell? _ _ (hHeld.2.2.1))).trans (hHeld.2.2.1)
       have HS3_ := (hb.cell (World.block_lt_of_cell? _ _ (hHeld.2.2.2))).trans (hHeld.2.2.2)
       have n0_ := am (Kd.Q_below (Kd.Q_elderB (onQ HO_6) gb1382 (Nat.le_of_eq hg.symm)) hb)
       have n1_ := am (Kd.R_below (Kd.R_elderB (onR HO_1369001) gb1382 (Nat.le_of_eq hg.symm)) hb)
       have n2_ := bb BK1359 hb
       have n3_ := bb BK1368 hb
       have n4_ := am (IsS120.below (IsS120.now) hb)
       have n5_ := bb BK1374 hb
       have n6_ := bb BK1378 hb
       have n7_ := bs HB hb
       have n8_ := am hbox
       have n9_ := am (ge_ hg HB)
       have n10_ := am (ge_ hg HB)
       have n11_ := am ((by rw [hg]; exact Nat.ne_of_lt (blk_lt (bkn BK1359)) : gb1359 ≠ gb1382))
       have n12_ := am ((by rw [hg]; exact Nat.ne_of_gt (blk_lt (bkn BK1359)) : gb1382 ≠ gb1359))
       have n13_ := am ((by rw [hg]; exact Nat.ne_of_lt (blk_lt (bkn BK1368)) : gb1368 ≠ gb1382))
       have n14_ := am ((by rw [hg]; exact Nat.ne_of_gt (blk_lt (bkn BK1368)) : gb1382 ≠ gb1368))
       have n15_ := am ((by rw [hg]; exact Nat.ne_of_lt (blk_lt (bkn BK1374)) : gb1374 ≠ gb1382))
       have n16_ := am ((by rw [hg]; exact Nat.ne_of_gt (blk_lt (bkn BK1374)) : gb1382 ≠ gb1374))
       have n17_ := am ((by rw [hg]; exact Nat.ne_of_lt (blk_lt (bkn BK1378)) : gb1378 ≠ gb1382))
       have n18_ := am ((by rw [hg]; exact Nat.ne_of_gt (blk_lt (bkn BK1378)) : gb1382 ≠ gb1378))
       have n19_ := am ((by rw [hg]; exact Nat.ne_of_lt (IsS120.lt (show IsS120 w _ g1362 t1360 t1376 from IsS120.now)) : g1362 ≠ gb1382))
       have n20_ := am ((by rw [hg]; exact Nat.ne_of_gt (IsS120.lt (show IsS120 w _ g1362 t1360 t1376 from IsS120.now)) : gb1382 ≠ g1362))
       clear HO_6 HO_1369001 BK1359 BK1368 HI1362 BK1374 BK1378 HB
       have HO_6 := n0_
       have HO_1369001 := n1_
       have BK1359 := n2_
       have BK1368 := n3_
       have HI1362 := n4_
       have BK1374 := n5_
       have BK1378 := n6_
       have HB := n7_
       have BK1382 := n8_
       have GW1382 := n9_
       have GE1382 := n10_
       have NB1359_1382 := n11_
       have NB1382_1359 := n12_
       have NB1368_1382 := n13_
       have NB1382_1368 := n14_
       have NB1374_1382 := n15_
       have NB1382_1374 := n16_
       have NB1378_1382 := n17_
       have NB1382_1378 := n18_
       have NB1362_1382 := n19_
       have NB1382_1362 := n20_
       clear n0_ n1_ n2_ n3_ n4_ n5_ n6_ n7_ n8_ n9_ n10_ n11_ n12_ n13_ n14_ n15_ n16_ n17_ n18_ n19_ n20_ hb hbox hg
       refine hK.out _ _ ⟨(bc BK1368 0), (bc BK1368 1), HS2_, HS3_⟩ (fun hHeld => ?_)
       clear hK K
       refine nz_ 9 ?_
       refine one_ (i := 6) (N := some 51) #[true, true, true, true, true, true, true, false, false, true, false] rfl rfl (one_of HT_.out (by kernel_rfl)) (by decide) (fun K hK => ?_)
       refine gg_ Try.func126 #[.pointer (some ⟨g1362, 0, none⟩), .int .i64 (t1364.length : Int)] ?_
       with_reducible refine (spec_l6Rd_pick.calls kj4 g1362 t1360 t1376 (t1364.length : Int) t1379 t1380 w _ ?side1 ?side2 A30.out).mono ?_
       (case side1 => exact IsS120.now)
       (case side2 => exact bn HB)
       rintro e w103 ⟨rfl, hi, hb, hk⟩
       have HS2_ := keep_cell hk (hHeld.2.2.1) (by first | (rw [add_block]; exact Kd.own_blk (IsS120.own_ne HI1362.out HO_1369001.out (by decide))) | (show (Addr.add _ _).block ≠ _; rw [add_block]; exact Kd.own_blk (IsS120.own_ne HI1362.out HO_1369001.out (by decide))) | exact Kd.own_blk (IsS120.own_ne HI1362.out HO_1369001.out (by decide)))
       have HS3_ := keep_cell hk (hHeld.2.2.2) (by first | (rw [add_block]; exact Kd.own_blk (IsS120.own_ne HI1362.out HO_1369001.out (by decide))) | (show (Addr.add _ _).block ≠ _; rw [add_block]; exact Kd.own_blk (IsS120.own_ne HI1362.out HO_1369001.out (by decide))) | exact Kd.own_blk (IsS120.own_ne HI1362.out HO_1369001.out (by decide)))
       refine ⟨_, rfl, ?_⟩
       replace HO_6 := am (Kd.Q_mono (Kd.Q_keep (IsS120.apartQ (show IsS120 w _ g1362 t1360 t1376 from IsS120.now) (onQ HO_6) (by decide)) hk (fun _ h => h.2)) (fun _ h => h.1))
       replace HO_1369001 := am (Kd.R_mono (Kd.R_keep (IsS120.apart (show IsS120 w _ g1362 t1360 t1376 from IsS120.now) (onR HO_1369001) (by decide)) hk (fun _ h => h.2)) (fun _ h => h.1))
       replace BK1359 := am (KeepBut.blk hk (bkn BK1359) NB1359_1362.out (by simp))
       replace BK1368 := am (KeepBut.blk hk (bkn BK1368) NB1368_1362.out (by simp))
       replace BK1374 := am (KeepBut.blk hk (bkn BK1374) NB1374_1362.out (by simp))
       replace BK1378 := am (KeepBut.blk hk (bkn BK1378) NB1378_1362.out (by simp))
       replace BK1382 := am (KeepBut.blk hk (bkn BK1382) NB1382_1362.out (by simp))
       replace HB := am hb
       replace HI1362 := am hi
       (try clear hb)
       (try clear hb2)
       (try clear hk)
       (try clear hi)
       refine hK.out _ _ ⟨(bc BK1368 0), (bc BK1368 1), HS2_, HS3_⟩ (fun hHeld => ?_)
       clear hK K
       refine nz_ 51 ?_
       refine pz_ 7 (some 52) HT_ ?_
       refine tz_ 8 (some 53) HT_ HW_ hHeld ?_
       exact norm_ (by simp only [putAll, Act.put, List.setIfInBounds_toArray, List.set_cons_zero, List.set_cons_succ]) (hCont (gb1382) _ ⟨hHeld, (by (with_reducible repeat (first | apply Kd.R_alloc | apply Kd.R_drewN | apply Kd.R_drew)); exact Kd.R_mono HO_1369001.out (fun _ hk => ⟨hk.1.1, ⟨hk.1.2, hk.2⟩⟩)), (by (with_reducible repeat (first | apply Kd.Q_alloc | apply Kd.Q_drewN | apply Kd.Q_drew)); exact Kd.Q_mono HO_6.out (fun _ hk => ⟨hk.1.1, ⟨hk.1.2, hk.2⟩⟩)), (bkn BK1359), (bkn BK1368), (bkn BK1374), (bkn BK1378), (bkn BK1382), GW1382.out, GE1382.out, NB1362_1382.out, NB1382_1362.out, NB1359_1382.out, NB1382_1359.out, NB1368_1382.out, NB1382_1368.out, NB1374_1382.out, NB1382_1374.out, NB1378_1382.out, NB1382_1378.out, (IsS120.now), (bn HB)⟩)
     rintro gb1382 w104 ⟨hS_, h0_, h1_, h2_, h3_, h4_, h5_, h6_, h7_, h8_, h9_, h10_, h11_, h12_, h13_, h14_, h15_, h16_, h17_, h18_, h19_, h20_⟩
     have n0_ : Aside0 (Kd.R k73 73 w104 w.heap.size (fun k_ => some k_ ≠ (.slice (some ad1377) t1369.length co87 : Value).ownBlock ∧ k_ ≠ gb1378 ∧ k_ ≠ gb1382) (.slice (some ad1381) t1364.length co13) t1364) := ⟨h0_⟩
     have n1_ : Aside0 (Kd.Q k73 73 w104 w.heap.size (fun k_ => some k_ ≠ (.slice (some ad1381) t1364.length co13 : Value).ownBlock ∧ k_ ≠ gb1378 ∧ k_ ≠ gb1382) (.slice (some ad1377) t1369.length co87) t1369) := ⟨h1_⟩
     have n2_ : Aside0 (w104.heap[gb1359]? = some (.cells #[.int .i64 0, .slice none 0 0] 34 (0, 0))) := ⟨h2_⟩
     have n3_ : Aside0 (w104.heap[gb1368]? = some (.cells #[.int .i64 t1363, .slice (some ad1381) t1364.length co13] 34 (0, 0))) := ⟨h3_⟩
     have n4_ : Aside0 (w104.heap[gb1374]? = some (.cells #[.int .i64 t1363, .slice (some ad1377) t1369.length co87] 34 (0, 0))) := ⟨h4_⟩
     have n5_ : Aside0 (w104.heap[gb1378]? = some (.cells #[.int .i64 ((rd_T73 t1369 t1375).f0), .int .i64 ((rd_T73 t1369 t1375).f1)] 73 (0, 0))) := ⟨h5_⟩
     have n6_ : Aside0 (w104.heap[gb1382]? = some (.cells #[.int .i64 0, .int .i64 0] 73 (0, 0))) := ⟨h6_⟩
     have n7_ : Aside0 (w.heap.size ≤ gb1382) := ⟨h7_⟩
     have n8_ : Aside0 (w.heap.size ≤ gb1382) := ⟨h8_⟩
     have n9_ : Aside0 (g1362 ≠ gb1382) := ⟨h9_⟩
     have n10_ : Aside0 (gb1382 ≠ g1362) := ⟨h10_⟩
     have n11_ : Aside0 (gb1359 ≠ gb1382) := ⟨h11_⟩
     have n12_ : Aside0 (gb1382 ≠ gb1359) := ⟨h12_⟩
     have n13_ : Aside0 (gb1368 ≠ gb1382) := ⟨h13_⟩
     have n14_ : Aside0 (gb1382 ≠ gb1368) := ⟨h14_⟩
     have n15_ : Aside0 (gb1374 ≠ gb1382) := ⟨h15_⟩
     have n16_ : Aside0 (gb1382 ≠ gb1374) := ⟨h16_⟩
     have n17_ : Aside0 (gb1378 ≠ gb1382) := ⟨h17_⟩
     have n18_ : Aside0 (gb1382 ≠ gb1378) := ⟨h18_⟩
     have n19_ : Aside0 (IsS120 w w104 g1362 t1360 t1380) := ⟨h19_⟩
     have n20_ : Aside0 (Below w.heap.size w w104) := ⟨h20_⟩
     clear HO_6 HO_1369001 BK1359 BK1368 BK1374 BK1378 HI1362 HB h0_ h1_ h2_ h3_ h4_ h5_ h6_ h7_ h8_ h9_ h10_ h11_ h12_ h13_ h14_ h15_ h16_ h17_ h18_ h19_ h20_
     have HO_1369001 := n0_
     have HO_6 := n1_
     have BK1359 := n2_
     have BK1368 := n3_
     have BK1374 := n4_
     have BK1378 := n5_
     have BK1382 := n6_
     have GW1382 := n7_
     have GE1382 := n8_
     have NB1362_1382 := n9_
     have NB1382_1362 := n10_
     have NB1359_1382 := n11_
     have NB1382_1359 := n12_
     have NB1368_1382 := n13_
     have NB1382_1368 := n14_
     have NB1374_1382 := n15_
     have NB1382_1374 := n16_
     have NB1378_1382 := n17_
     have NB1382_1378 := n18_
     have HI1362 := n19_
     have HB := n20_
     clear n0_ n1_ n2_ n3_ n4_ n5_ n6_ n7_ n8_ n9_ n10_ n11_ n12_ n13_ n14_ n15_ n16_ n17_ n18_ n19_ n20_
     have hHeld : w104.cell? ⟨gb1368, 0, none⟩ = some (.int .i64 t1363) ∧ w104.cell? ⟨gb1368, 1, none⟩ = some (.slice (some ad1381) t1364.length co13) ∧ w104.cell? (ad1381.add ((t1379).toNat * 2)) = some (.int .i64 ((rd_T73 t1364 t1379).f0)) ∧ w104.cell? ⟨(ad1381.add ((t1379).toNat * 2)).block, (ad1381.add ((t1379).toNat * 2)).off + 1, none⟩ = some (.int .i64 ((rd_T73 t1364 t1379).f1)) := hS_
     refine norm_ (a' := ?_) ?_ ?_
     rotate_left
     ·simp only [putAll, Act.put, List.setIfInBounds_toArray, List.set_cons_zero, List.set_cons_succ]
      rfl
     refine one_ (i := 10) (N := none) #[true, true, true, true, true, true, true, true, true, true, true] rfl rfl (one_of HT_.out (by kernel_rfl)) (by decide) (fun K hK => ?_)
     have hs105 := bc BK1382 0
     have hfs105 := blk_frozen BK1382.out 0
     have hns105_0 := NB1359_1382.out
     have hns105_1 := NB1368_1382.out
     have hns105_2 := NB1374_1382.out
     have hns105_3 := NB1378_1382.out
     have hms105_0 := NB1382_1359.out
     have hms105_1 := NB1382_1368.out
     have hms105_2 := NB1382_1374.out
     have hms105_3 := NB1382_1378.out
     have hs106 := bc BK1382 1
     have hfs106 := blk_frozen BK1382.out 1
     have hns106_0 := NB1359_1382.out
     have hns106_1 := NB1368_1382.out
     have hns106_2 := NB1374_1382.out
     have hns106_3 := NB1378_1382.out
     have hms106_0 := NB1382_1359.out
     have hms106_1 := NB1382_1368.out
     have hms106_2 := NB1382_1374.out
     have hms106_3 := NB1382_1378.out
     refine skip_ (w1 := ?_) (by rfl) rfl ?_ ?_
     rotate_left
     ·go_simp
      rfl
     refine hK.out _ _ ⟨((cell_far (p := ⟨gb1382, _, none⟩) NB1368_1382.out _).trans (((cell_far (p := ⟨gb1382, _, none⟩) NB1368_1382.out _).trans (hHeld.1)))), ((cell_far (p := ⟨gb1382, _, none⟩) NB1368_1382.out _).trans (((cell_far (p := ⟨gb1382, _, none⟩) NB1368_1382.out _).trans (hHeld.2.1)))), ((cell_far (p := ⟨gb1382, _, none⟩) (by first | exact Kd.own_blk (Kd.R_away HO_1369001.out (fun _ hk => hk.2.2)) | (rw [add_block]; exact Kd.own_blk (Kd.R_away HO_1369001.out (fun _ hk => hk.2.2))) | (show (Addr.add _ _).block ≠ _; rw [add_block]; exact Kd.own_blk (Kd.R_away HO_1369001.out (fun _ hk => hk.2.2))) | (dsimp only; exact Kd.own_blk (Kd.R_away HO_1369001.out (fun _ hk => hk.2.2)))) _).trans (((cell_far (p := ⟨gb1382, _, none⟩) (by first | exact Kd.own_blk (Kd.R_away HO_1369001.out (fun _ hk => hk.2.2)) | (rw [add_block]; exact Kd.own_blk (Kd.R_away HO_1369001.out (fun _ hk => hk.2.2))) | (show (Addr.add _ _).block ≠ _; rw [add_block]; exact Kd.own_blk (Kd.R_away HO_1369001.out (fun _ hk => hk.2.2))) | (dsimp only; exact Kd.own_blk (Kd.R_away HO_1369001.out (fun _ hk => hk.2.2)))) _).trans (hHeld.2.2.1)))), ((cell_far (p := ⟨gb1382, _, none⟩) (by first | exact Kd.own_blk (Kd.R_away HO_1369001.out (fun _ hk => hk.2.2)) | (rw [add_block]; exact Kd.own_blk (Kd.R_away HO_1369001.out (fun _ hk => hk.2.2))) | (show (Addr.add _ _).block ≠ _; rw [add_block]; exact Kd.own_blk (Kd.R_away HO_1369001.out (fun _ hk => hk.2.2))) | (dsimp only; exact Kd.own_blk (Kd.R_away HO_1369001.out (fun _ hk => hk.2.2)))) _).trans (((cell_far (p := ⟨gb1382, _, none⟩) (by first | exact Kd.own_blk (Kd.R_away HO_1369001.out (fun _ hk => hk.2.2)) | (rw [add_block]; exact Kd.own_blk (Kd.R_away HO_1369001.out (fun _ hk => hk.2.2))) | (show (Addr.add _ _).block ≠ _; rw [add_block]; exact Kd.own_blk (Kd.R_away HO_1369001.out (fun _ hk => hk.2.2))) | (dsimp only; exact Kd.own_blk (Kd.R_away HO_1369001.out (fun _ hk => hk.2.2)))) _).trans (hHeld.2.2.2))))⟩ (fun hHeld => ?_)
     clear hK K
     refine done_ (done_of HT_.out (by kernel_rfl)) ?_
     obtain ⟨hnb107, hnc107⟩ := n2 NB1374_1382 NB1382_1374
     obtain ⟨hcz108_0, hcz108_1, hfz108_0, hfz108_1⟩ := c2 BK1374
     obtain ⟨hnb109, hnc109⟩ := n2 NB1378_1382 NB1382_1378
     obtain ⟨hcz110_0, hcz110_1, hfz110_0, hfz110_1⟩ := c2 BK1378
     try go_wp2_with (first | ((with_reducible refine gate_callee (f := 103) rfl ?_); refine gl_ (some 60) Try.func103 #[.agg #[.int .i64 t1363, .slice (some ad1377) t1369.length co87], .int .i64 ((rd_T73 t1369 t1375).f0), .int .i64 ((rd_T73 t1369 t1375).f1)] ?_; (with_reducible refine (spec_NetCut.calls kj4 t1363 _ _ t1369 ((rd_T73 t1369 t1375).f0) ((rd_T73 t1369 t1375).f1) t1383 t1384 t1387 _ ?side1 ?side2 A33.out).mono ?_); (case side1 => refine (Kd.Q_reads' (e := 73) (base := w.heap.size) (ok := fun k_ => (some k_ ≠ (.slice (some ad1381) t1364.length co13 : Value).ownBlock ∧ (k_ ≠ gb1378 ∧ k_ ≠ gb1382))) (n := t1369.length) (c := co87) ?_).2.2; exact (by (with_reducible repeat (first | apply Kd.Q_alloc | apply Kd.Q_drewN | apply Kd.Q_drew)); exact (Kd.Q_mono (Kd.Q_far (p := ⟨gb1382, 1, none⟩) (Kd.Q_far (p := ⟨gb1382, 0, none⟩) (Kd.Q_mono HO_6.out (fun k_ hk => (⟨hk, hk.2.2⟩ : _ ∧ k_ ≠ gb1382))) (fun _ hk => hk.2) (.int .i64 ((rd_T73 t1364 t1379).f0))) (fun _ hk => hk.2) (.int .i64 ((rd_T73 t1364 t1379).f1))) (fun _ h_ => h_.1)))); (case side2 => exact (Kd.Q_reads' HO_6.out).2.1); rintro e w111 ⟨v1385, rfl, ho0, hb⟩; refine ⟨_, rfl, ?_⟩; have HO1386 := am (Kd.R_lower (Kd.R_newB (Kd.R_newB (Kd.R_new' (Kd.R_new' ho0 (Kd.Q_lt (by (with_reducible repeat (first | apply Kd.Q_alloc | apply Kd.Q_drewN | apply Kd.Q_drew)); exact (Kd.Q_mono (Kd.Q_far (p := ⟨gb1382, 1, none⟩) (Kd.Q_far (p := ⟨gb1382, 0, none⟩) (Kd.Q_mono HO_6.out (fun k_ hk => (⟨hk, hk.2.2⟩ : _ ∧ k_ ≠ gb1382))) (fun _ hk => hk.2) (.int .i64 ((rd_T73 t1364 t1379).f0))) (fun _ hk => hk.2) (.int .i64 ((rd_T73 t1364 t1379).f1))) (fun _ h_ => h_.1))))) (Kd.R_lt (by (with_reducible repeat (first | apply Kd.R_alloc | apply Kd.R_drewN | apply Kd.R_drew)); exact (Kd.R_mono (Kd.R_far (p := ⟨gb1382, 1, none⟩) (Kd.R_far (p := ⟨gb1382, 0, none⟩) (Kd.R_mono HO_1369001.out (fun k_ hk => (⟨hk, hk.2.2⟩ : _ ∧ k_ ≠ gb1382))) (fun _ hk => hk.2) (.int .i64 ((rd_T73 t1364 t1379).f0))) (fun _ hk => hk.2) (.int .i64 ((rd_T73 t1364 t1379).f1))) (fun _ h_ => h_.1))))) (bkn BK1378)) (g := gb1382) (o := .cells #[.int .i64 ((rd_T73 t1364 t1379).f0), .int .i64 ((rd_T73 t1364 t1379).f1)] 73 (0, 0)) (by (with_reducible repeat (first | refine blk_drewN ?_ _ | refine blk_drew ?_ | refine blk_alloc ?_ _)); refine blk_put (cs := #[.int .i64 ((rd_T73 t1364 t1379).f0), .int .i64 0]) ?_ 1 _ rfl; (with_reducible repeat (first | refine blk_drewN ?_ _ | refine blk_drew ?_ | refine blk_alloc ?_ _)); refine blk_put (cs := #[.int .i64 0, .int .i64 0]) ?_ 0 _ rfl; (with_reducible repeat (first | refine blk_drewN ?_ _ | refine blk_drew ?_ | refine blk_alloc ?_ _)); exact BK1382.out)) (below_size (bn HB))); replace HO_6 := am (Kd.Q_elder' (by (with_reducible repeat (first | apply Kd.Q_alloc | apply Kd.Q_drewN | apply Kd.Q_drew)); exact (Kd.Q_mono (Kd.Q_far (p := ⟨gb1382, 1, none⟩) (Kd.Q_far (p := ⟨gb1382, 0, none⟩) (Kd.Q_mono HO_6.out (fun k_ hk => (⟨hk, hk.2.2⟩ : _ ∧ k_ ≠ gb1382))) (fun _ hk => hk.2) (.int .i64 ((rd_T73 t1364 t1379).f0))) (fun _ hk => hk.2) (.int .i64 ((rd_T73 t1364 t1379).f1))) (fun _ h_ => h_.1))) (Kd.R_base ho0) hb); replace HO_1369001 := am (Kd.R_elder' (by (with_reducible repeat (first | apply Kd.R_alloc | apply Kd.R_drewN | apply Kd.R_drew)); exact (Kd.R_mono (Kd.R_far (p := ⟨gb1382, 1, none⟩) (Kd.R_far (p := ⟨gb1382, 0, none⟩) (Kd.R_mono HO_1369001.out (fun k_ hk => (⟨hk, hk.2.2⟩ : _ ∧ k_ ≠ gb1382))) (fun _ hk => hk.2) (.int .i64 ((rd_T73 t1364 t1379).f0))) (fun _ hk => hk.2) (.int .i64 ((rd_T73 t1364 t1379).f1))) (fun _ h_ => h_.1))) (Kd.R_base ho0) hb); replace BK1359 := bb BK1359 hb; replace BK1368 := bb BK1368 hb; replace HI1362 := am (IsS120.below (show IsS120 w ((w104.setCell ⟨gb1382, 0, none⟩ (.int .i64 ((rd_T73 t1364 t1379).f0))).setCell ⟨gb1382, 1, none⟩ (.int .i64 ((rd_T73 t1364 t1379).f1))) g1362 t1360 t1380 from IsS120.now) hb); replace BK1374 := bb BK1374 hb; replace BK1378 := bb BK1378 hb; replace BK1382 := am (blk_below (g := gb1382) (o := .cells #[.int .i64 ((rd_T73 t1364 t1379).f0), .int .i64 ((rd_T73 t1364 t1379).f1)] 73 (0, 0)) (by (with_reducible repeat (first | refine blk_drewN ?_ _ | refine blk_drew ?_ | refine blk_alloc ?_ _)); refine blk_put (cs := #[.int .i64 ((rd_T73 t1364 t1379).f0), .int .i64 0]) ?_ 1 _ rfl; (with_reducible repeat (first | refine blk_drewN ?_ _ | refine blk_drew ?_ | refine blk_alloc ?_ _)); refine blk_put (cs := #[.int .i64 0, .int .i64 0]) ?_ 0 _ rfl; (with_reducible repeat (first | refine blk_drewN ?_ _ | refine blk_drew ?_ | refine blk_alloc ?_ _)); exact BK1382.out) hb); replace HB := bs HB hb; (try clear hb); (try clear ho0); obtain ⟨hcz112_0, hcz112_1, hfz112_0, hfz112_1⟩ := c2 BK1374; obtain ⟨Ao113, co113, eo113⟩ := Kd.R_slice HO1386.out; subst eo113; obtain ⟨hnb114, hnc114⟩ := n2 NB1382_1359 NB1359_1382; obtain ⟨hnb115, hnc115⟩ := n2 NB1382_1368 NB1368_1382; obtain ⟨hnb116, hnc116⟩ := n2 NB1382_1362 NB1362_1382; have hcz117_0 : w111.cell? ⟨gb1382, 0, none⟩ = some (.int .i64 ((rd_T73 t1364 t1379).f0)) := (bc BK1382 0); have hcz117_1 : w111.cell? ⟨gb1382, 1, none⟩ = some (.int .i64 ((rd_T73 t1364 t1379).f1)) := (bc BK1382 1); have hfz117_0 := blk_frozen BK1382.out 0; have hfz117_1 := blk_frozen BK1382.out 1) | ((with_reducible refine gate_callee (f := 127) rfl ?_); refine gl_ (some 69) Try.func127 #[.agg #[.int .i64 t1383, .slice Ao113 t1384.length co113], .int .i64 ((rd_T73 t1364 t1379).f0), .int .i64 ((rd_T73 t1364 t1379).f1)] ?_; (with_reducible refine (spec_NetAdd.calls kj4 t1383 _ _ t1384 ((rd_T73 t1364 t1379).f0) ((rd_T73 t1364 t1379).f1) t1388 t1389 false _ ?side1 ?side2 A34.out).mono ?_); (case side1 => refine (Kd.R_reads' (e := 73) (base := w.heap.size) (ok := fun k_ => ((((True ∧ some k_ ≠ (.slice (some ad1377) t1369.length co87 : Value).ownBlock) ∧ some k_ ≠ (.slice (some ad1381) t1364.length co13 : Value).ownBlock) ∧ k_ ≠ gb1378) ∧ k_ ≠ gb1382)) (n := t1384.length) (c := co113) ?_).2.2; exact (by (with_reducible repeat (first | apply Kd.R_alloc | apply Kd.R_drewN | apply Kd.R_drew)); exact (Kd.R_mono (Kd.R_far (p := ⟨gb1374, 1, none⟩) (Kd.R_far (p := ⟨gb1374, 0, none⟩) (Kd.R_types HO1386.out BK1374.out (by decide)) (fun _ hk => hk.2) (.int .i64 t1383)) (fun _ hk => hk.2) (.slice Ao113 t1384.length co113)) (fun _ h_ => h_.1)))); (case side2 => exact (Kd.R_reads' HO1386.out).2.1); rintro e w118 ⟨v1390, rfl, ho0, hb⟩; refine ⟨_, rfl, ?_⟩; have HO1391 := am (Kd.R_lower (Kd.R_newB (Kd.R_newB (Kd.R_new' (Kd.R_new' (Kd.R_new' ho0 (Kd.Q_lt (by (with_reducible repeat (first | apply Kd.Q_alloc | apply Kd.Q_drewN | apply Kd.Q_drew)); exact (Kd.Q_mono (Kd.Q_far (p := ⟨gb1374, 1, none⟩) (Kd.Q_far (p := ⟨gb1374, 0, none⟩) (Kd.Q_types HO_6.out BK1374.out (by decide)) (fun _ hk => hk.2) (.int .i64 t1383)) (fun _ hk => hk.2) (.slice Ao113 t1384.length co113)) (fun _ h_ => h_.1))))) (Kd.R_lt (by (with_reducible repeat (first | apply Kd.R_alloc | apply Kd.R_drewN | apply Kd.R_drew)); exact (Kd.R_mono (Kd.R_far (p := ⟨gb1374, 1, none⟩) (Kd.R_far (p := ⟨gb1374, 0, none⟩) (Kd.R_types HO_1369001.out BK1374.out (by decide)) (fun _ hk => hk.2) (.int .i64 t1383)) (fun _ hk => hk.2) (.slice Ao113 t1384.length co113)) (fun _ h_ => h_.1))))) (Kd.R_lt (by (with_reducible repeat (first | apply Kd.R_alloc | apply Kd.R_drewN | apply Kd.R_drew)); exact (Kd.R_mono (Kd.R_far (p := ⟨gb1374, 1, none⟩) (Kd.R_far (p := ⟨gb1374, 0, none⟩) (Kd.R_types HO1386.out BK1374.out (by decide)) (fun _ hk => hk.2) (.int .i64 t1383)) (fun _ hk => hk.2) (.slice Ao113 t1384.length co113)) (fun _ h_ => h_.1))))) (bkn BK1378)) (bkn BK1382)) (below_size (bn HB))); replace HO_6 := am (Kd.Q_elder' (by (with_reducible repeat (first | apply Kd.Q_alloc | apply Kd.Q_drewN | apply Kd.Q_drew)); exact (Kd.Q_mono (Kd.Q_far (p := ⟨gb1374, 1, none⟩) (Kd.Q_far (p := ⟨gb1374, 0, none⟩) (Kd.Q_types HO_6.out BK1374.out (by decide)) (fun _ hk => hk.2) (.int .i64 t1383)) (fun _ hk => hk.2) (.slice Ao113 t1384.length co113)) (fun _ h_ => h_.1))) (Kd.R_base ho0) hb); replace HO_1369001 := am (Kd.R_elder' (by (with_reducible repeat (first | apply Kd.R_alloc | apply Kd.R_drewN | apply Kd.R_drew)); exact (Kd.R_mono (Kd.R_far (p := ⟨gb1374, 1, none⟩) (Kd.R_far (p := ⟨gb1374, 0, none⟩) (Kd.R_types HO_1369001.out BK1374.out (by decide)) (fun _ hk => hk.2) (.int .i64 t1383)) (fun _ hk => hk.2) (.slice Ao113 t1384.length co113)) (fun _ h_ => h_.1))) (Kd.R_base ho0) hb); replace HO1386 := am (Kd.R_elder' (by (with_reducible repeat (first | apply Kd.R_alloc | apply Kd.R_drewN | apply Kd.R_drew)); exact (Kd.R_mono (Kd.R_far (p := ⟨gb1374, 1, none⟩) (Kd.R_far (p := ⟨gb1374, 0, none⟩) (Kd.R_types HO1386.out BK1374.out (by decide)) (fun _ hk => hk.2) (.int .i64 t1383)) (fun _ hk => hk.2) (.slice Ao113 t1384.length co113)) (fun _ h_ => h_.1))) (Kd.R_base ho0) hb); replace BK1359 := bb BK1359 hb; replace BK1368 := bb BK1368 hb; replace HI1362 := am (IsS120.below (show IsS120 w ((w111.setCell ⟨gb1374, 0, none⟩ (.int .i64 t1383)).setCell ⟨gb1374, 1, none⟩ (.slice Ao113 t1384.length co113)) g1362 t1360 t1380 from IsS120.now) hb); replace BK1374 := am (blk_below (g := gb1374) (o := .cells #[.int .i64 t1383, .slice Ao113 t1384.length co113] 34 (0, 0)) (by (with_reducible repeat (first | refine blk_drewN ?_ _ | refine blk_drew ?_ | refine blk_alloc ?_ _)); refine blk_put (cs := #[.int .i64 t1383, .slice (some ad1377) t1369.length co87]) ?_ 1 _ rfl; (with_reducible repeat (first | refine blk_drewN ?_ _ | refine blk_drew ?_ | refine blk_alloc ?_ _)); refine blk_put (cs := #[.int .i64 t1363, .slice (some ad1377) t1369.length co87]) ?_ 0 _ rfl; (with_reducible repeat (first | refine blk_drewN ?_ _ | refine blk_drew ?_ | refine blk_alloc ?_ _)); exact BK1374.out) hb); replace BK1378 := bb BK1378 hb; replace BK1382 := bb BK1382 hb; replace HB := bs HB hb; (try clear hb); (try clear ho0)) | ((with_reducible refine gate_dst (N := 10) rfl ?_); refine be_ 10 #[.int .i64 0, .slice none 0 0] 34 ?_; intro gb1393 hg w119 hbox hb; replace HO_6 := am (Kd.Q_below (onQ HO_6) hb); replace HO_1369001 := am (Kd.R_below (onR HO_1369001) hb); replace HO1386 := am (Kd.R_below (onR HO1386) hb); replace HO1391 := am (Kd.R_below (onR HO1391) hb); have BK1393 := am hbox; have GW1393 := am (ge_ hg HB); have GE1393 := am (ge_ hg HB); replace HB := bs HB hb; obtain ⟨NB1359_1393, NB1393_1359⟩ := nb_ hg BK1359; replace BK1359 := bb BK1359 hb; obtain ⟨NB1368_1393, NB1393_1368⟩ := nb_ hg BK1368; replace BK1368 := bb BK1368 hb; obtain ⟨NB1374_1393, NB1393_1374⟩ := nb_ hg BK1374; replace BK1374 := bb BK1374 hb; obtain ⟨NB1378_1393, NB1393_1378⟩ := nb_ hg BK1378; replace BK1378 := bb BK1378 hb; obtain ⟨NB1382_1393, NB1393_1382⟩ := nb_ hg BK1382; replace BK1382 := bb BK1382 hb; have NB1362_1393 := am ((by rw [hg]; exact Nat.ne_of_lt (IsS120.lt (show IsS120 w _ g1362 t1360 t1380 from IsS120.now)) : g1362 ≠ gb1393)); have NB1393_1362 := am ((by rw [hg]; exact Nat.ne_of_gt (IsS120.lt (show IsS120 w _ g1362 t1360 t1380 from IsS120.now)) : gb1393 ≠ g1362)); replace HI1362 := am (IsS120.below (IsS120.now) hb); clear hb hbox hg; obtain ⟨hnb120, hnc120⟩ := n2 NB1393_1359 NB1359_1393; obtain ⟨hnb121, hnc121⟩ := n2 NB1393_1368 NB1368_1393; obtain ⟨hnb122, hnc122⟩ := n2 NB1393_1374 NB1374_1393; obtain ⟨hnb123, hnc123⟩ := n2 NB1393_1378 NB1378_1393; obtain ⟨hnb124, hnc124⟩ := n2 NB1393_1382 NB1382_1393; obtain ⟨hnb125, hnc125⟩ := n2 NB1393_1362 NB1362_1393; obtain ⟨hcz126_0, hcz126_1, hfz126_0, hfz126_1⟩ := c2 BK1393; obtain ⟨Ao127, co127, eo127⟩ := Kd.R_slice HO1391.out; subst eo127))
     have n0_ : Aside0 (Kd.Q k73 73 ((w119.setCell ⟨gb1393, 0, none⟩ (.int .i64 t1388)).setCell ⟨gb1393, 1, none⟩ (.slice Ao127 t1389.length co127)) w.heap.size (fun k_ => some k_ ≠ (.slice (some ad1381) t1364.length co13 : Value).ownBlock ∧ some k_ ≠ (.slice Ao113 t1384.length co113 : Value).ownBlock ∧ some k_ ≠ (.slice Ao127 t1389.length co127 : Value).ownBlock ∧ k_ ≠ gb1378 ∧ k_ ≠ gb1382) (.slice (some ad1377) t1369.length co87) t1369) := ⟨by (with_reducible repeat (first | apply Kd.Q_alloc | apply Kd.Q_drewN | apply Kd.Q_drew)); exact Kd.Q_mono (Kd.Q_far (p := ⟨gb1393, 1, none⟩) (Kd.Q_far (p := ⟨gb1393, 0, none⟩) (Kd.Q_types HO_6.out BK1393.out (by decide)) (fun _ hk => hk.2) (.int .i64 t1388)) (fun _ hk => hk.2) (.slice Ao127 t1389.length co127)) (fun _ hk => ⟨hk.1.1.1.1, ⟨hk.1.1.2, ⟨hk.1.2, ⟨hk.1.1.1.2.1, hk.1.1.1.2.2⟩⟩⟩⟩)⟩
     have n1_ : Aside0 (Kd.R k73 73 ((w119.setCell ⟨gb1393, 0, none⟩ (.int .i64 t1388)).setCell ⟨gb1393, 1, none⟩ (.slice Ao127 t1389.length co127)) w.heap.size (fun k_ => some k_ ≠ (.slice (some ad1377) t1369.length co87 : Value).ownBlock ∧ some k_ ≠ (.slice Ao113 t1384.length co113 : Value).ownBlock ∧ some k_ ≠ (.slice Ao127 t1389.length co127 : Value).ownBlock ∧ k_ ≠ gb1378 ∧ k_ ≠ gb1382) (.slice (some ad1381) t1364.length co13) t1364) := ⟨by (with_reducible repeat (first | apply Kd.R_alloc | apply Kd.R_drewN | apply Kd.R_drew)); exact Kd.R_mono (Kd.R_far (p := ⟨gb1393, 1, none⟩) (Kd.R_far (p := ⟨gb1393, 0, none⟩) (Kd.R_types HO_1369001.out BK1393.out (by decide)) (fun _ hk => hk.2) (.int .i64 t1388)) (fun _ hk => hk.2) (.slice Ao127 t1389.length co127)) (fun _ hk => ⟨hk.1.1.1.1, ⟨hk.1.1.2, ⟨hk.1.2, ⟨hk.1.1.1.2.1, hk.1.1.1.2.2⟩⟩⟩⟩)⟩
     have n2_ : Aside0 (Kd.R k73 73 ((w119.setCell ⟨gb1393, 0, none⟩ (.int .i64 t1388)).setCell ⟨gb1393, 1, none⟩ (.slice Ao127 t1389.length co127)) w.heap.size (fun k_ => some k_ ≠ (.slice (some ad1377) t1369.length co87 : Value).ownBlock ∧ some k_ ≠ (.slice (some ad1381) t1364.length co13 : Value).ownBlock ∧ some k_ ≠ (.slice Ao127 t1389.length co127 : Value).ownBlock ∧ k_ ≠ gb1378 ∧ k_ ≠ gb1382) (.slice Ao113 t1384.length co113) t1384) := ⟨by (with_reducible repeat (first | apply Kd.R_alloc | apply Kd.R_drewN | apply Kd.R_drew)); exact Kd.R_mono (Kd.R_far (p := ⟨gb1393, 1, none⟩) (Kd.R_far (p := ⟨gb1393, 0, none⟩) (Kd.R_types HO1386.out BK1393.out (by decide)) (fun _ hk => hk.2) (.int .i64 t1388)) (fun _ hk => hk.2) (.slice Ao127 t1389.length co127)) (fun _ hk => ⟨hk.1.1.1.1.1.2, ⟨hk.1.1.1.1.2, ⟨hk.1.2, ⟨hk.1.1.1.2, hk.1.1.2⟩⟩⟩⟩)⟩
     have n3_ : Aside0 (Kd.R k73 73 ((w119.setCell ⟨gb1393, 0, none⟩ (.int .i64 t1388)).setCell ⟨gb1393, 1, none⟩ (.slice Ao127 t1389.length co127)) w.heap.size (fun k_ => some k_ ≠ (.slice (some ad1377) t1369.length co87 : Value).ownBlock ∧ some k_ ≠ (.slice (some ad1381) t1364.length co13 : Value).ownBlock ∧ some k_ ≠ (.slice Ao113 t1384.length co113 : Value).ownBlock ∧ k_ ≠ gb1378 ∧ k_ ≠ gb1382) (.slice Ao127 t1389.length co127) t1389) := ⟨by (with_reducible repeat (first | apply Kd.R_alloc | apply Kd.R_drewN | apply Kd.R_drew)); exact Kd.R_mono (Kd.R_far (p := ⟨gb1393, 1, none⟩) (Kd.R_far (p := ⟨gb1393, 0, none⟩) (Kd.R_types HO1391.out BK1393.out (by decide)) (fun _ hk => hk.2) (.int .i64 t1388)) (fun _ hk => hk.2) (.slice Ao127 t1389.length co127)) (fun _ hk => ⟨hk.1.1.1.1.1.2, ⟨hk.1.1.1.1.2, ⟨hk.1.1.1.2, ⟨hk.1.1.2, hk.1.2⟩⟩⟩⟩)⟩
     have n4_ : Aside0 (((w119.setCell ⟨gb1393, 0, none⟩ (.int .i64 t1388)).setCell ⟨gb1393, 1, none⟩ (.slice Ao127 t1389.length co127)).heap[gb1359]? = some (.cells #[.int .i64 0, .slice none 0 0] 34 (0, 0))) := ⟨bkn BK1359⟩
     have n5_ : Aside0 (((w119.setCell ⟨gb1393, 0, none⟩ (.int .i64 t1388)).setCell ⟨gb1393, 1, none⟩ (.slice Ao127 t1389.length co127)).heap[gb1368]? = some (.cells #[.int .i64 t1363, .slice (some ad1381) t1364.length co13] 34 (0, 0))) := ⟨bkn BK1368⟩
     have n6_ : Aside0 (((w119.setCell ⟨gb1393, 0, none⟩ (.int .i64 t1388)).setCell ⟨gb1393, 1, none⟩ (.slice Ao127 t1389.length co127)).heap[gb1374]? = some (.cells #[.int .i64 t1383, .slice Ao113 t1384.length co113] 34 (0, 0))) := ⟨bkn BK1374⟩
     have n7_ : Aside0 (((w119.setCell ⟨gb1393, 0, none⟩ (.int .i64 t1388)).setCell ⟨gb1393, 1, none⟩ (.slice Ao127 t1389.length co127)).heap[gb1378]? = some (.cells #[.int .i64 ((rd_T73 t1369 t1375).f0), .int .i64 ((rd_T73 t1369 t1375).f1)] 73 (0, 0))) := ⟨bkn BK1378⟩
     have n8_ : Aside0 (((w119.setCell ⟨gb1393, 0, none⟩ (.int .i64 t1388)).setCell ⟨gb1393, 1, none⟩ (.slice Ao127 t1389.length co127)).heap[gb1382]? = some (.cells #[.int .i64 ((rd_T73 t1364 t1379).f0), .int .i64 ((rd_T73 t1364 t1379).f1)] 73 (0, 0))) := ⟨bkn BK1382⟩
     have n9_ : Aside0 (((w119.setCell ⟨gb1393, 0, none⟩ (.int .i64 t1388)).setCell ⟨gb1393, 1, none⟩ (.slice Ao127 t1389.length co127)).heap[gb1393]? = some (.cells #[.int .i64 t1388, .slice Ao127 t1389.length co127] 34 (0, 0))) := ⟨by (with_reducible repeat (first | refine blk_drewN ?_ _ | refine blk_drew ?_ | refine blk_alloc ?_ _)); refine blk_put (cs := #[.int .i64 t1388, .slice none 0 0]) ?_ 1 _ rfl; (with_reducible repeat (first | refine blk_drewN ?_ _ | refine blk_drew ?_ | refine blk_alloc ?_ _)); refine blk_put (cs := #[.int .i64 0, .slice none 0 0]) ?_ 0 _ rfl; (with_reducible repeat (first | refine blk_drewN ?_ _ | refine blk_drew ?_ | refine blk_alloc ?_ _)); exact BK1393.out⟩
     have n10_ : Aside0 (IsS120 w ((w119.setCell ⟨gb1393, 0, none⟩ (.int .i64 t1388)).setCell ⟨gb1393, 1, none⟩ (.slice Ao127 t1389.length co127)) g1362 t1360 t1380) := ⟨IsS120.now⟩
     have n11_ : Aside0 (Below w.heap.size w ((w119.setCell ⟨gb1393, 0, none⟩ (.int .i64 t1388)).setCell ⟨gb1393, 1, none⟩ (.slice Ao127 t1389.length co127))) := ⟨bn HB⟩
     (try clear HO_6)
     (try clear HO_1369001)
     (try clear HO1386)
     (try clear HO1391)
     (try clear BK1359)
     (try clear BK1368)
     (try clear BK1374)
     (try clear BK1378)
     (try clear BK1382)
     (try clear BK1393)
     (try clear HI1362)
     (try clear HB)
     generalize ((w119.setCell ⟨gb1393, 0, none⟩ (.int .i64 t1388)).setCell ⟨gb1393, 1, none⟩ (.slice Ao127 t1389.length co127)) = w128 at n0_ n1_ n2_ n3_ n4_ n5_ n6_ n7_ n8_ n9_ n10_ n11_ ⊢
     have HO_6 := n0_
     have HO_1369001 := n1_
     have HO1386 := n2_
     have HO1391 := n3_
     have BK1359 := n4_
     have BK1368 := n5_
     have BK1374 := n6_
     have BK1378 := n7_
     have BK1382 := n8_
     have BK1393 := n9_
     have HI1362 := n10_
     have HB := n11_
     clear n0_ n1_ n2_ n3_ n4_ n5_ n6_ n7_ n8_ n9_ n10_ n11_
     replace HO_6 := am (Kd.Q_drew HO_6.out)
     replace HO_1369001 := am (Kd.R_drew HO_1369001.out)
     replace HO1386 := am (Kd.R_drew HO1386.out)
     replace HO1391 := am (Kd.R_drew HO1391.out)
     replace BK1359 := am (blk_drew BK1359.out)
     replace BK1368 := am (blk_drew BK1368.out)
     replace BK1374 := am (blk_drew BK1374.out)
     replace BK1378 := am (blk_drew BK1378.out)
     replace BK1382 := am (blk_drew BK1382.out)
     replace BK1393 := am (blk_drew BK1393.out)
     replace HI1362 := am (IsS120.drew HI1362.out)
     replace HB := am (below_drew1 HB.out)
     refine start_ (n := 5) (S := fun w' => w'.cell? ⟨gb1368, 0, none⟩ = some (.int .i64 t1363) ∧ w'.cell? ⟨gb1368, 1, none⟩ = some (.slice (some ad1381) t1364.length co13) ∧ w'.cell? ⟨gb1374, 0, none⟩ = some (.int .i64 t1383) ∧ w'.cell? ⟨gb1374, 1, none⟩ = some (.slice Ao113 t1384.length co113)) (ds := []) #[false, false, false, false, false] (by kernel_rfl) rfl rfl ⟨(bc BK1368 0), (bc BK1368 1), (bc BK1374 0), (bc BK1374 1)⟩ (fun hHeld => ?_)
     generalize w128.drew = w129 at HO_6 HO_1369001 HO1386 HO1391 BK1359 BK1368 BK1374 BK1378 BK1382 BK1393 HI1362 HB hHeld ⊢
     refine pure_ (i := 1) (N := some 77) (v := ?_) (a' := ?_) #[false, true, false, false, false] rfl rfl (by kernel_rfl) (fun _ _ _ h => h) (Or.inl ⟨by rfl, ?_⟩) ?_ ?_; rotate_left; (intro w'; go_simp; with_reducible rfl); rotate_left; (simp only [Act.put, List.setIfInBounds_toArray, List.set_cons_zero, List.set_cons_succ, i64_w, i32_w]; rfl)
     refine take_ (i := 0) (N := some 76) (v := ?_) (a' := ?_) #[true, true, false, false, false] rfl rfl (by kernel_rfl) (fun _ _ _ h => h) (Or.inl ⟨by rfl, ?_⟩) hHeld ?_ ?_; rotate_left; (rintro w' ⟨s0, s1, s2, s3⟩; go_simp; with_reducible rfl); rotate_left; (simp only [Act.put, List.setIfInBounds_toArray, List.set_cons_zero, List.set_cons_succ, i64_w, i32_w]; rfl)
     refine take_ (i := 2) (N := some 78) (v := ?_) (a' := ?_) #[true, true, true, false, false] rfl rfl (by kernel_rfl) (fun _ _ _ h => h) (Or.inl ⟨by rfl, ?_⟩) hHeld ?_ ?_; rotate_left; (rintro w' ⟨s0, s1, s2, s3⟩; go_simp; with_reducible rfl); rotate_left; (simp only [Act.put, List.setIfInBounds_toArray, List.set_cons_zero, List.set_cons_succ, i64_w, i32_w]; rfl)
     refine one_ (i := 3) (N := none) #[true, true, true, true, false] rfl rfl (by kernel_rfl) (by decide) (fun K hK => ?_)
     have hs130 := bc BK1359 0
     have hfs130 := blk_frozen BK1359.out 0
     have hns130_1 := NB1368_1359.out
     have hns130_2 := NB1374_1359.out
     have hns130_3 := NB1378_1359.out
     have hns130_4 := NB1382_1359.out
     have hns130_5 := NB1393_1359.out
     have hms130_1 := NB1359_1368.out
     have hms130_2 := NB1359_1374.out
     have hms130_3 := NB1359_1378.out
     have hms130_4 := NB1359_1382.out
     have hms130_5 := NB1359_1393.out
     have hs131 := bc BK1359 1
     have hfs131 := blk_frozen BK1359.out 1
     have hns131_1 := NB1368_1359.out
     have hns131_2 := NB1374_1359.out
     have hns131_3 := NB1378_1359.out
     have hns131_4 := NB1382_1359.out
     have hns131_5 := NB1393_1359.out
     have hms131_1 := NB1359_1368.out
     have hms131_2 := NB1359_1374.out
     have hms131_3 := NB1359_1378.out
     have hms131_4 := NB1359_1382.out
     have hms131_5 := NB1359_1393.out
     refine skip_ (w1 := ?_) (by rfl) rfl ?_ ?_
     rotate_left
     ·go_simp
      rfl
     refine hK.out _ _ ⟨((cell_far (p := ⟨gb1359, _, none⟩) NB1368_1359.out _).trans (((cell_far (p := ⟨gb1359, _, none⟩) NB1368_1359.out _).trans (hHeld.1)))), ((cell_far (p := ⟨gb1359, _, none⟩) NB1368_1359.out _).trans (((cell_far (p := ⟨gb1359, _, none⟩) NB1368_1359.out _).trans (hHeld.2.1)))), ((cell_far (p := ⟨gb1359, _, none⟩) NB1374_1359.out _).trans (((cell_far (p := ⟨gb1359, _, none⟩) NB1374_1359.out _).trans (hHeld.2.2.1)))), ((cell_far (p := ⟨gb1359, _, none⟩) NB1374_1359.out _).trans (((cell_far (p := ⟨gb1359, _, none⟩) NB1374_1359.out _).trans (hHeld.2.2.2))))⟩ (fun hHeld => ?_)
     clear hK K
     refine pure_ (i := 4) (N := some 3) (v := ?_) (a' := ?_) #[true, true, true, true, true] rfl rfl (by kernel_rfl) (fun _ _ _ h => h) (Or.inl ⟨by rfl, ?_⟩) ?_ ?_; rotate_left; (intro w'; go_simp; with_reducible rfl); rotate_left; (simp only [Act.put, List.setIfInBounds_toArray, List.set_cons_zero, List.set_cons_succ, i64_w, i32_w]; rfl)
     refine done_ (by kernel_rfl) ?_
     try go_wp2
     refine bodyPost_ret (results_ct rfl _ _ gb1359 34 #[.int .i64 t1363, .slice (some ad1381) t1364.length co13] (0, 0) _ rfl (by (with_reducible repeat (first | refine blk_drewN ?_ _ | refine blk_drew ?_ | refine blk_alloc ?_ _)); refine blk_put (cs := #[.int .i64 t1363, .slice none 0 0]) ?_ 1 _ rfl; (with_reducible repeat (first | refine blk_drewN ?_ _ | refine blk_drew ?_ | refine blk_alloc ?_ _)); refine blk_put (cs := #[.int .i64 0, .slice none 0 0]) ?_ 0 _ rfl; (with_reducible repeat (first | refine blk_drewN ?_ _ | refine blk_drew ?_ | refine blk_alloc ?_ _)); exact BK1359.out) Try.underlying34 rfl (by kernel_rfl)) rfl ?_
     exact ⟨_, _, by first | rfl | (simp [errW_none, errW_some] <;> rfl) | (simp [*, errW_none, errW_some] <;> rfl), by (with_reducible repeat (first | apply Kd.R_alloc | apply Kd.R_drewN | apply Kd.R_drew)); exact Kd.R_mono (Kd.R_far (p := ⟨gb1359, 1, none⟩) (Kd.R_far (p := ⟨gb1359, 0, none⟩) (Kd.R_types HO_1369001.out BK1359.out (by decide)) (fun _ hk => hk.2) (.int .i64 t1363)) (fun _ hk => hk.2) (.slice (some ad1381) t1364.length co13)) (fun _ hk => hk.1.2.1), Kd.Q_of_R (by (with_reducible repeat (first | apply Kd.R_alloc | apply Kd.R_drewN | apply Kd.R_drew)); exact Kd.R_mono (Kd.R_far (p := ⟨gb1359, 1, none⟩) (Kd.R_far (p := ⟨gb1359, 0, none⟩) (Kd.R_types HO1386.out BK1359.out (by decide)) (fun _ hk => hk.2) (.int .i64 t1363)) (fun _ hk => hk.2) (.slice (some ad1381) t1364.length co13)) (fun _ hk => hk.1.2.1)), bn HB⟩
   ·replace c26 := Bool.eq_false_iff.mpr c26
    subst c26
    rw [if_neg (show ¬ (false = true) by decide)] at H
    replace H := Option.bind_eq_some_iff.mp H
    obtain ⟨⟨t1394, t1395⟩, A1320, H⟩ := H
    (try dsimp only at H)
    have A132 := am A1320
    clear A1320
    by_cases c133 : t1394 = 0
    ·rw [if_pos c133] at H
     have c133b0 : (t1394 == 0) = true := beq_iff_eq.mpr c133
     have c133b1 : (t1394 != 0) = false := bne_eq_false_iff_eq.mpr c133
     clear c133
     replace H := Option.bind_eq_some_iff.mp H
     obtain ⟨⟨t1396, t1397⟩, A1340, H⟩ := H
     (try dsimp only at H)
     have A134 := am A1340
     clear A1340
     replace H := Option.bind_eq_some_iff.mp H
     obtain ⟨⟨t1398, t1399⟩, A1350, H⟩ := H
     (try dsimp only at H)
     have A135 := am A1350
     clear A1350
     obtain ⟨c136, H⟩ := ig_ H
     have LMc136 := am c136
     clear c136
     obtain ⟨y1400, hy1400⟩ : ∃ y_ : List (S73), y_ = (t1369 ++ [(⟨t1396, wrap64 (4 + t1398)⟩ : S73)]) := ⟨_, rfl⟩
     replace H : (some (t1363, t1364, y1400)) = some (r1, r2, r3) := nh_ hy1400 H
     have Ny1400 := am hy1400
     clear hy1400
     simp only [Option.some.injEq, Prod.mk.injEq] at H
     obtain ⟨rfl, rfl, rfl⟩ := H
     go_wp2_with (first | ((with_reducible refine gate_callee (f := 126) rfl ?_); refine gl_ (some 80) Try.func126 #[.pointer (some ⟨g1362, 0, none⟩), .int .i64 8] ?_; (with_reducible refine (spec_l6Rd_pick.calls kj4 g1362 t1360 x1363001_4 8 t1394 t1395 w _ ?side1 ?side2 A132.out).mono ?_); (case side1 => exact IsS120.now); (case side2 => exact bn HB); rintro e w137 ⟨rfl, hi, hb, hk⟩; refine ⟨_, rfl, ?_⟩; replace HO_6 := am (Kd.Q_mono (Kd.Q_keep (IsS120.apartQ (show IsS120 w _ g1362 t1360 x1363001_4 from IsS120.now) (onQ HO_6) (by decide)) hk (fun _ h => h.2)) (fun _ h => h.1)); replace HO_1369001 := am (Kd.R_mono (Kd.R_keep (IsS120.apart (show IsS120 w _ g1362 t1360 x1363001_4 from IsS120.now) (onR HO_1369001) (by decide)) hk (fun _ h => h.2)) (fun _ h => h.1)); replace BK1359 := am (KeepBut.blk hk (bkn BK1359) NB1359_1362.out (by simp)); replace BK1368 := am (KeepBut.blk hk (bkn BK1368) NB1368_1362.out (by simp)); replace HB := am hb; replace HI1362 := am hi; (try clear hb); (try clear hk); (try clear hi)) | ((with_reducible refine gate_callee (f := 126) rfl ?_); refine gl_ (some 85) Try.func126 #[.pointer (some ⟨g1362, 0, none⟩), .int .i64 4] ?_; (with_reducible refine (spec_l6Rd_pick.calls kj4 g1362 t1360 t1395 4 t1396 t1397 w _ ?side1 ?side2 A134.out).mono ?_); (case side1 => exact IsS120.now); (case side2 => exact bn HB); rintro e w138 ⟨rfl, hi, hb, hk⟩; refine ⟨_, rfl, ?_⟩; replace HO_6 := am (Kd.Q_mono (Kd.Q_keep (IsS120.apartQ (show IsS120 w _ g1362 t1360 t1395 from IsS120.now) (onQ HO_6) (by decide)) hk (fun _ h => h.2)) (fun _ h => h.1)); replace HO_1369001 := am (Kd.R_mono (Kd.R_keep (IsS120.apart (show IsS120 w _ g1362 t1360 t1395 from IsS120.now) (onR HO_1369001) (by decide)) hk (fun _ h => h.2)) (fun _ h => h.1)); replace BK1359 := am (KeepBut.blk hk (bkn BK1359) NB1359_1362.out (by simp)); replace BK1368 := am (KeepBut.blk hk (bkn BK1368) NB1368_1362.out (by simp)); replace HB := am hb; replace HI1362 := am hi; (try clear hb); (try clear hk); (try clear hi)) | ((with_reducible refine gate_callee (f := 126) rfl ?_); refine gl_ (some 87) Try.func126 #[.pointer (some ⟨g1362, 0, none⟩), .int .i64 4] ?_; (with_reducible refine (spec_l6Rd_pick.calls kj4 g1362 t1360 t1397 4 t1398 t1399 w _ ?side1 ?side2 A135.out).mono ?_); (case side1 => exact IsS120.now); (case side2 => exact bn HB); rintro e w139 ⟨rfl, hi, hb, hk⟩; refine ⟨_, rfl, ?_⟩; replace HO_6 := am (Kd.Q_mono (Kd.Q_keep (IsS120.apartQ (show IsS120 w _ g1362 t1360 t1397 from IsS120.now) (onQ HO_6) (by decide)) hk (fun _ h => h.2)) (fun _ h => h.1)); replace HO_1369001 := am (Kd.R_mono (Kd.R_keep (IsS120.apart (show IsS120 w _ g1362 t1360 t1397 from IsS120.now) (onR HO_1369001) (by decide)) hk (fun _ h => h.2)) (fun _ h => h.1)); replace BK1359 := am (KeepBut.blk hk (bkn BK1359) NB1359_1362.out (by simp)); replace BK1368 := am (KeepBut.blk hk (bkn BK1368) NB1368_1362.out (by simp)); replace HB := am hb; replace HI1362 := am hi; (try clear hb); (try clear hk); (try clear hi)) | ((with_reducible refine gate_builtin (b := .append) (xs := #[.tmp 83, .tmp 90]) rfl ?_); at_builtin; refine Kd.Q_append k73 (w0 := w) w.heap.size rfl (.tmp 83) (.tmp 90) 32 73 (.agg #[(.int .i64 0), (.int .i64 0)]) 16 rfl Try.underlying32 info73 rfl (by decide) (by omega) v1370 t1369 (⟨t1396, wrap64 (4 + t1398)⟩ : S73) [.int .i64 t1396, .int .i64 (wrap64 (4 + t1398))] (fun k_ => some k_ ≠ (.slice Ao13 t1364.length co13 : Value).ownBlock) (fun _ => False) rfl rfl ?aP (fun _ hk => hk.elim) ?aF ?aO ?aB ?aS ?aL ?_; (case aP => exact k73_mkM _ _ _ (⟨t1396, wrap64 (4 + t1398)⟩ : S73)); (case aB => exact (bn HB)); (case aF => exact (fun k_ hk => Kd.fresh' (Kd.R_lt (onR HO_1369001)) k_ hk)); (case aO => exact (onQ HO_6)); (case aS => exact (below_size (bn HB))); (case aL => have := LMc136.out; omega); intro v1401 w140 ho hb hg hat; rw [← Ny1400.out] at ho; replace HO_1369001 := am (Kd.R_after (ok := (fun _ => True)) (by (with_reducible repeat (first | apply Kd.R_alloc | apply Kd.R_drewN | apply Kd.R_drew)); exact Kd.R_mono HO_1369001.out (fun _ hk => ⟨trivial, hk⟩)) hg hat); replace BK1359 := am (blk_grown (bkn BK1359) hg (Kd.Q_ne HO_6.out BK1359.out (by decide))); replace BK1368 := am (blk_grown (bkn BK1368) hg (Kd.Q_ne HO_6.out BK1368.out (by decide))); replace HI1362 := am (IsS120.grown (IsS120.now) hg (IsS120.own_neQ HI1362.out HO_6.out (by decide))); replace HB := am hb; have HO1402 := am ho; clear HO_6; clear ho hb hg hat; obtain ⟨hnb141, hnc141⟩ := n2 NB1368_1359 NB1359_1368; obtain ⟨hnb142, hnc142⟩ := n2 NB1368_1362 NB1362_1368; obtain ⟨hcz143_0, hcz143_1, hfz143_0, hfz143_1⟩ := c2 BK1368; obtain ⟨hnb144, hnc144⟩ := n2 NB1359_1362 NB1362_1359; obtain ⟨hcz145_0, hcz145_1, hfz145_0, hfz145_1⟩ := c2 BK1359))
     refine bodyPost_ret (results_ct rfl _ _ gb1359 34 #[.int .i64 t1363, .slice Ao13 t1364.length co13] (0, 0) _ rfl (by (with_reducible repeat (first | refine blk_drewN ?_ _ | refine blk_drew ?_ | refine blk_alloc ?_ _)); refine blk_put (cs := #[.int .i64 t1363, .slice none 0 0]) ?_ 1 _ rfl; (with_reducible repeat (first | refine blk_drewN ?_ _ | refine blk_drew ?_ | refine blk_alloc ?_ _)); refine blk_put (cs := #[.int .i64 0, .slice none 0 0]) ?_ 0 _ rfl; (with_reducible repeat (first | refine blk_drewN ?_ _ | refine blk_drew ?_ | refine blk_alloc ?_ _)); exact BK1359.out) Try.underlying34 rfl (by kernel_rfl)) rfl ?_
     exact ⟨_, _, by first | rfl | (simp [errW_none, errW_some] <;> rfl) | (simp [*, errW_none, errW_some] <;> rfl), by (with_reducible repeat (first | apply Kd.R_alloc | apply Kd.R_drewN | apply Kd.R_drew)); exact Kd.R_mono (Kd.R_far (p := ⟨gb1359, 1, none⟩) (Kd.R_far (p := ⟨gb1359, 0, none⟩) (Kd.R_types HO_1369001.out BK1359.out (by decide)) (fun _ hk => hk.2) (.int .i64 t1363)) (fun _ hk => hk.2) (.slice Ao13 t1364.length co13)) (fun _ hk => hk.1.2), by (with_reducible repeat (first | apply Kd.Q_alloc | apply Kd.Q_drewN | apply Kd.Q_drew)); exact Kd.Q_mono (Kd.Q_far (p := ⟨gb1359, 1, none⟩) (Kd.Q_far (p := ⟨gb1359, 0, none⟩) (Kd.Q_types HO1402.out BK1359.out (by decide)) (fun _ hk => hk.2) (.int .i64 t1363)) (fun _ hk => hk.2) (.slice Ao13 t1364.length co13)) (fun _ hk => hk.1), bn HB⟩
    ·rw [if_neg c133] at H
     have c133b0 : (t1394 == 0) = false := beq_eq_false_iff_ne.mpr c133
     have c133b1 : (t1394 != 0) = true := bne_iff_ne.mpr c133
     by_cases c146 : t1394 = 1
     ·rw [if_pos c146] at H
      have c146b0 : (t1394 == 1) = true := beq_iff_eq.mpr c146
      have c146b1 : (t1394 != 1) = false := bne_eq_false_iff_eq.mpr c146
      clear c146
      by_cases c147 : (t1369.length : Int) > 0
      ·rw [if_pos c147] at H
       have c147b0 := decide_eq_true c147
       have c147b1 : decide (0 < t1369.length) = true := decide_eq_true (by omega)
       clear c147
       obtain ⟨c148, H⟩ := ig_ H
       have c148b0 := eq_true c148
       have c148b1 := decide_eq_true c148
       clear c148
       obtain ⟨y1403, hy1403⟩ : ∃ y_ : List (S73), y_ = (t1369.drop (1 : Int).toNat) := ⟨_, rfl⟩
       replace H : (some (t1363, t1364, y1403)) = some (r1, r2, r3) := nh_ hy1403 H
       have Ny1403 := am hy1403
       clear hy1403
       simp only [Option.some.injEq, Prod.mk.injEq] at H
       obtain ⟨rfl, rfl, rfl⟩ := H
       go_wp2_with (first | ((with_reducible refine gate_callee (f := 126) rfl ?_); refine gl_ (some 80) Try.func126 #[.pointer (some ⟨g1362, 0, none⟩), .int .i64 8] ?_; (with_reducible refine (spec_l6Rd_pick.calls kj4 g1362 t1360 x1363001_4 8 t1394 t1395 w _ ?side1 ?side2 A132.out).mono ?_); (case side1 => exact IsS120.now); (case side2 => exact bn HB); rintro e w149 ⟨rfl, hi, hb, hk⟩; refine ⟨_, rfl, ?_⟩; replace HO_6 := am (Kd.Q_mono (Kd.Q_keep (IsS120.apartQ (show IsS120 w _ g1362 t1360 x1363001_4 from IsS120.now) (onQ HO_6) (by decide)) hk (fun _ h => h.2)) (fun _ h => h.1)); replace HO_1369001 := am (Kd.R_mono (Kd.R_keep (IsS120.apart (show IsS120 w _ g1362 t1360 x1363001_4 from IsS120.now) (onR HO_1369001) (by decide)) hk (fun _ h => h.2)) (fun _ h => h.1)); replace BK1359 := am (KeepBut.blk hk (bkn BK1359) NB1359_1362.out (by simp)); replace BK1368 := am (KeepBut.blk hk (bkn BK1368) NB1368_1362.out (by simp)); replace HB := am hb; replace HI1362 := am hi; (try clear hb); (try clear hk); (try clear hi); obtain ⟨Ao150, co150, eo150, _⟩ := Kd.Q_slice HO_6.out; subst eo150; have q151 : (1 : Int) ≤ ((t1369.length : Int) : Int) := oa; obtain ⟨i0151, hi0151, _, hsz151, _⟩ := info_parts info73; have hcut151 := cut_from (P := Try.prog) 32 73 .i64 Try.underlying32 hi0151 2 hsz151 Ao150 t1369.length co150 1 (by omega) q151; have hr151 := Kd.Q_drop (k := (1 : Int).toNat) HO_6.out (by omega); obtain ⟨A151, hA151⟩ : ∃ A1, A1 = (if co150 = (1 : Int).toNat then Ao150 else (Ao150 : Option Addr).map (·.add ((1 : Int).toNat * 2))) := ⟨_, rfl⟩; obtain ⟨c151, hc151⟩ : ∃ c1, c1 = co150 - (1 : Int).toNat := ⟨_, rfl⟩; have hy151 : y1403.length = t1369.length - (1 : Int).toNat := (by rw [Ny1403.out, List.length_drop]); rw [← Ny1403.out] at hr151; rw [← hy151, ← hA151, ← hc151] at hcut151; replace hr151 : Kd.Q k73 73 w149 w.heap.size (fun k_ => some k_ ≠ (.slice Ao13 t1364.length co13 : Value).ownBlock) (.slice A151 y1403.length c151) y1403 := (by rw [hA151, hc151, hy151]; exact hr151); have HE151 : Aside0 ((Value.slice A151 y1403.length c151).ownBlock = (.slice Ao150 t1369.length co150 : Value).ownBlock) := ⟨by rw [hA151]; split <;> (cases (Ao150 : Option Addr) <;> rfl)⟩; clear hy151 hi0151 hsz151 HO_6 hA151 hc151; have HO1405 := am hr151; clear hr151; replace q151 := eq_true q151; have n_ := am (Kd.R_mono (ok' := fun k_ => some k_ ≠ (.slice A151 y1403.length c151 : Value).ownBlock) HO_1369001.out (fun k_ hk => (by rw [HE151.out]; exact hk))); clear HO_1369001; have HO_1369001 := n_; clear n_; obtain ⟨hnb152, hnc152⟩ := n2 NB1368_1359 NB1359_1368; obtain ⟨hnb153, hnc153⟩ := n2 NB1368_1362 NB1362_1368; obtain ⟨hcz154_0, hcz154_1, hfz154_0, hfz154_1⟩ := c2 BK1368; obtain ⟨hnb155, hnc155⟩ := n2 NB1359_1362 NB1362_1359; obtain ⟨hcz156_0, hcz156_1, hfz156_0, hfz156_1⟩ := c2 BK1359))
       refine bodyPost_ret (results_ct rfl _ _ gb1359 34 #[.int .i64 t1363, .slice Ao13 t1364.length co13] (0, 0) _ rfl (by (with_reducible repeat (first | refine blk_drewN ?_ _ | refine blk_drew ?_ | refine blk_alloc ?_ _)); refine blk_put (cs := #[.int .i64 t1363, .slice none 0 0]) ?_ 1 _ rfl; (with_reducible repeat (first | refine blk_drewN ?_ _ | refine blk_drew ?_ | refine blk_alloc ?_ _)); refine blk_put (cs := #[.int .i64 0, .slice none 0 0]) ?_ 0 _ rfl; (with_reducible repeat (first | refine blk_drewN ?_ _ | refine blk_drew ?_ | refine blk_alloc ?_ _)); exact BK1359.out) Try.underlying34 rfl (by kernel_rfl)) rfl ?_
       exact ⟨_, _, by first | rfl | (simp [errW_none, errW_some] <;> rfl) | (simp [*, errW_none, errW_some] <;> rfl), by (with_reducible repeat (first | apply Kd.R_alloc | apply Kd.R_drewN | apply Kd.R_drew)); exact Kd.R_mono (Kd.R_far (p := ⟨gb1359, 1, none⟩) (Kd.R_far (p := ⟨gb1359, 0, none⟩) (Kd.R_types HO_1369001.out BK1359.out (by decide)) (fun _ hk => hk.2) (.int .i64 t1363)) (fun _ hk => hk.2) (.slice Ao13 t1364.length co13)) (fun _ hk => hk.1), by (with_reducible repeat (first | apply Kd.Q_alloc | apply Kd.Q_drewN | apply Kd.Q_drew)); exact Kd.Q_mono (Kd.Q_far (p := ⟨gb1359, 1, none⟩) (Kd.Q_far (p := ⟨gb1359, 0, none⟩) (Kd.Q_types HO1405.out BK1359.out (by decide)) (fun _ hk => hk.2) (.int .i64 t1363)) (fun _ hk => hk.2) (.slice Ao13 t1364.length co13)) (fun _ hk => hk.1), bn HB⟩
      ·rw [if_neg c147] at H
       have c147b0 := decide_eq_false c147
       have c147b1 : decide (0 < t1369.length) = false := decide_eq_false (by omega)
       clear c147
       simp only [Option.some.injEq, Prod.mk.injEq] at H
       obtain ⟨rfl, rfl, rfl⟩ := H
       go_wp2_with (first | ((with_reducible refine gate_callee (f := 126) rfl ?_); refine gl_ (some 80) Try.func126 #[.pointer (some ⟨g1362, 0, none⟩), .int .i64 8] ?_; (with_reducible refine (spec_l6Rd_pick.calls kj4 g1362 t1360 x1363001_4 8 t1394 t1395 w _ ?side1 ?side2 A132.out).mono ?_); (case side1 => exact IsS120.now); (case side2 => exact bn HB); rintro e w157 ⟨rfl, hi, hb, hk⟩; refine ⟨_, rfl, ?_⟩; replace HO_6 := am (Kd.Q_mono (Kd.Q_keep (IsS120.apartQ (show IsS120 w _ g1362 t1360 x1363001_4 from IsS120.now) (onQ HO_6) (by decide)) hk (fun _ h => h.2)) (fun _ h => h.1)); replace HO_1369001 := am (Kd.R_mono (Kd.R_keep (IsS120.apart (show IsS120 w _ g1362 t1360 x1363001_4 from IsS120.now) (onR HO_1369001) (by decide)) hk (fun _ h => h.2)) (fun _ h => h.1)); replace BK1359 := am (KeepBut.blk hk (bkn BK1359) NB1359_1362.out (by simp)); replace BK1368 := am (KeepBut.blk hk (bkn BK1368) NB1368_1362.out (by simp)); replace HB := am hb; replace HI1362 := am hi; (try clear hb); (try clear hk); (try clear hi); obtain ⟨Ao158, co158, eo158, _⟩ := Kd.Q_slice HO_6.out; subst eo158; obtain ⟨hnb159, hnc159⟩ := n2 NB1368_1359 NB1359_1368; obtain ⟨hnb160, hnc160⟩ := n2 NB1368_1362 NB1362_1368; obtain ⟨hcz161_0, hcz161_1, hfz161_0, hfz161_1⟩ := c2 BK1368; obtain ⟨hnb162, hnc162⟩ := n2 NB1359_1362 NB1362_1359; obtain ⟨hcz163_0, hcz163_1, hfz163_0, hfz163_1⟩ := c2 BK1359))
       refine bodyPost_ret (results_ct rfl _ _ gb1359 34 #[.int .i64 t1363, .slice Ao13 t1364.length co13] (0, 0) _ rfl (by (with_reducible repeat (first | refine blk_drewN ?_ _ | refine blk_drew ?_ | refine blk_alloc ?_ _)); refine blk_put (cs := #[.int .i64 t1363, .slice none 0 0]) ?_ 1 _ rfl; (with_reducible repeat (first | refine blk_drewN ?_ _ | refine blk_drew ?_ | refine blk_alloc ?_ _)); refine blk_put (cs := #[.int .i64 0, .slice none 0 0]) ?_ 0 _ rfl; (with_reducible repeat (first | refine blk_drewN ?_ _ | refine blk_drew ?_ | refine blk_alloc ?_ _)); exact BK1359.out) Try.underlying34 rfl (by kernel_rfl)) rfl ?_
       exact ⟨_, _, by first | rfl | (simp [errW_none, errW_some] <;> rfl) | (simp [*, errW_none, errW_some] <;> rfl), by (with_reducible repeat (first | apply Kd.R_alloc | apply Kd.R_drewN | apply Kd.R_drew)); exact Kd.R_mono (Kd.R_far (p := ⟨gb1359, 1, none⟩) (Kd.R_far (p := ⟨gb1359, 0, none⟩) (Kd.R_types HO_1369001.out BK1359.out (by decide)) (fun _ hk => hk.2) (.int .i64 t1363)) (fun _ hk => hk.2) (.slice Ao13 t1364.length co13)) (fun _ hk => hk.1), by (with_reducible repeat (first | apply Kd.Q_alloc | apply Kd.Q_drewN | apply Kd.Q_drew)); exact Kd.Q_mono (Kd.Q_far (p := ⟨gb1359, 1, none⟩) (Kd.Q_far (p := ⟨gb1359, 0, none⟩) (Kd.Q_types HO_6.out BK1359.out (by decide)) (fun _ hk => hk.2) (.int .i64 t1363)) (fun _ hk => hk.2) (.slice Ao13 t1364.length co13)) (fun _ hk => hk.1), bn HB⟩
     ·rw [if_neg c146] at H
      have c146b0 : (t1394 == 1) = false := beq_eq_false_iff_ne.mpr c146
      have c146b1 : (t1394 != 1) = true := bne_iff_ne.mpr c146
      simp only [Option.some.injEq, Prod.mk.injEq] at H
      obtain ⟨rfl, rfl, rfl⟩ := H
      go_wp2_with (first | ((with_reducible refine gate_callee (f := 126) rfl ?_); refine gl_ (some 80) Try.func126 #[.pointer (some ⟨g1362, 0, none⟩), .int .i64 8] ?_; (with_reducible refine (spec_l6Rd_pick.calls kj4 g1362 t1360 x1363001_4 8 t1394 t1395 w _ ?side1 ?side2 A132.out).mono ?_); (case side1 => exact IsS120.now); (case side2 => exact bn HB); rintro e w164 ⟨rfl, hi, hb, hk⟩; refine ⟨_, rfl, ?_⟩; replace HO_6 := am (Kd.Q_mono (Kd.Q_keep (IsS120.apartQ (show IsS120 w _ g1362 t1360 x1363001_4 from IsS120.now) (onQ HO_6) (by decide)) hk (fun _ h => h.2)) (fun _ h => h.1)); replace HO_1369001 := am (Kd.R_mono (Kd.R_keep (IsS120.apart (show IsS120 w _ g1362 t1360 x1363001_4 from IsS120.now) (onR HO_1369001) (by decide)) hk (fun _ h => h.2)) (fun _ h => h.1)); replace BK1359 := am (KeepBut.blk hk (bkn BK1359) NB1359_1362.out (by simp)); replace BK1368 := am (KeepBut.blk hk (bkn BK1368) NB1368_1362.out (by simp)); replace HB := am hb; replace HI1362 := am hi; (try clear hb); (try clear hk); (try clear hi); obtain ⟨hnb165, hnc165⟩ := n2 NB1368_1359 NB1359_1368; obtain ⟨hnb166, hnc166⟩ := n2 NB1368_1362 NB1362_1368; obtain ⟨hcz167_0, hcz167_1, hfz167_0, hfz167_1⟩ := c2 BK1368; obtain ⟨hnb168, hnc168⟩ := n2 NB1359_1362 NB1362_1359; obtain ⟨hcz169_0, hcz169_1, hfz169_0, hfz169_1⟩ := c2 BK1359))
      refine bodyPost_ret (results_ct rfl _ _ gb1359 34 #[.int .i64 t1363, .slice Ao13 t1364.length co13] (0, 0) _ rfl (by (with_reducible repeat (first | refine blk_drewN ?_ _ | refine blk_drew ?_ | refine blk_alloc ?_ _)); refine blk_put (cs := #[.int .i64 t1363, .slice none 0 0]) ?_ 1 _ rfl; (with_reducible repeat (first | refine blk_drewN ?_ _ | refine blk_drew ?_ | refine blk_alloc ?_ _)); refine blk_put (cs := #[.int .i64 0, .slice none 0 0]) ?_ 0 _ rfl; (with_reducible repeat (first | refine blk_drewN ?_ _ | refine blk_drew ?_ | refine blk_alloc ?_ _)); exact BK1359.out) Try.underlying34 rfl (by kernel_rfl)) rfl ?_
      exact ⟨_, _, by first | rfl | (simp [errW_none, errW_some] <;> rfl) | (simp [*, errW_none, errW_some] <;> rfl), by (with_reducible repeat (first | apply Kd.R_alloc | apply Kd.R_drewN | apply Kd.R_drew)); exact Kd.R_mono (Kd.R_far (p := ⟨gb1359, 1, none⟩) (Kd.R_far (p := ⟨gb1359, 0, none⟩) (Kd.R_types HO_1369001.out BK1359.out (by decide)) (fun _ hk => hk.2) (.int .i64 t1363)) (fun _ hk => hk.2) (.slice Ao13 t1364.length co13)) (fun _ hk => hk.1), by (with_reducible repeat (first | apply Kd.Q_alloc | apply Kd.Q_drewN | apply Kd.Q_drew)); exact Kd.Q_mono (Kd.Q_far (p := ⟨gb1359, 1, none⟩) (Kd.Q_far (p := ⟨gb1359, 0, none⟩) (Kd.Q_types HO_6.out BK1359.out (by decide)) (fun _ hk => hk.2) (.int .i64 t1363)) (fun _ hk => hk.2) (.slice Ao13 t1364.length co13)) (fun _ hk => hk.1), bn HB⟩

end Go.Proofs.Ytdlnnjgjfngccaa.F
