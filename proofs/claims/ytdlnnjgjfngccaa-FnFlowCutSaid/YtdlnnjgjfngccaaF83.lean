-- Written by oprint.py (wip/tools) over the kit's print program, for this seat.
import Derived.Test.YtdlnnjgjfngccaaF0
import Derived.Test.YtdlnnjgjfngccaaF39
import Derived.Test.YtdlnnjgjfngccaaF51
import Derived.Test.YtdlnnjgjfngccaaF52
import Derived.Test.YtdlnnjgjfngccaaF58
import Derived.Test.YtdlnnjgjfngccaaF74
namespace Go.Proofs.Ytdlnnjgjfngccaa.F
open Go.RowKit Go.Proofs.YtdlnnjgjfngccaaW.PrintWords Go.Proofs.YtdlnnjgjfngccaaW.PrintLast Go.Proofs.YtdlnnjgjfngccaaW.PrintMore
attribute [local go_sem] max2_int min2_int max_two min_two max_three min_three max_four min_four   -- for this text's walks alone
set_option linter.unusedVariables false
set_option linter.unusedSimpArgs false

/-! ### laws_FnFlowCut: function 20 -/
mutual
def laws_FnFlowCut.j0 : Nat → List Int → List Int → Bool → Option (Bool)
 | 0, _, _, _ => none
 | k + 1, x0, x1, x20 => if x20 = true then (some true) else ((spec_DrawFlowCut.f k x0).bind fun bt1293 => ((spec_FlowCut.f k bt1293.1 bt1293.2.1 bt1293.2.2.1 bt1293.2.2.2).bind fun bt1300 => ((impl_FlowCut.f k bt1293.1 bt1293.2.1 bt1293.2.2.1 bt1293.2.2.2).bind fun bt1304 => (if (bt1304.2 != bt1300.2) = true then (laws_FnFlowCut.j1 k x1 bt1293.2.2.1 bt1293.2.2.2 bt1300.1 bt1300.2 bt1304.1 bt1304.2 true bt1293.1 bt1293.2.1) else ((laws_loTies.f k bt1304.1 bt1300.1).bind fun t1308 => (if t1308 = true then (laws_FnFlowCut.j1 k x1 bt1293.2.2.1 bt1293.2.2.2 bt1300.1 bt1300.2 bt1304.1 bt1304.2 ((bt1304.1.length : Int) == 0) bt1293.1 bt1293.2.1) else (laws_FnFlowCut.j1 k x1 bt1293.2.2.1 bt1293.2.2.2 bt1300.1 bt1300.2 bt1304.1 bt1304.2 true bt1293.1 bt1293.2.1)))))))
def laws_FnFlowCut.j1 : Nat → List Int → Int → Int → List (S73) → Bool → List (S73) → Bool → Bool → Int → List (S73) → Option (Bool)
 | 0, _, _, _, _, _, _, _, _, _, _ => none
 | k + 1, x1, x6, x7, x8, x9, x10, x11, x54, x1300000, x1300001 => if x54 = true then (if (x11 == x9) = true then ((laws_loTies.f k x10 x8).bind fun t1309 => (some t1309)) else (some false)) else (if (x10.length : Int) = 0 then (none) else ((impl_FlowParts.f k x1300000 x1300001 x6 x7 x10).bind fun t1310 => (if t1310 = true then ((some (([] : List (S73)) : List (S73))).bind fun y1311 => (if 0 ≤ ((x1.length : Int) % (x10.length : Int)) then (if ((x1.length : Int) % (x10.length : Int)) ≤ (x10.length : Int) then ((some (x10.take (((x1.length : Int) % (x10.length : Int)) : Int).toNat : List (S73))).bind fun y1314 => (if y1311.length + y1314.length < 8796093022208 then ((some (y1311 ++ y1314 : List (S73))).bind fun y1318 => (if 0 ≤ (wrap64 (((x1.length : Int) % (x10.length : Int)) + 1)) then (if (wrap64 (((x1.length : Int) % (x10.length : Int)) + 1)) ≤ (x10.length : Int) then ((some (x10.drop ((wrap64 (((x1.length : Int) % (x10.length : Int)) + 1)) : Int).toNat : List (S73))).bind fun y1321 => (if y1318.length + y1321.length < 8796093022208 then ((impl_FlowParts.f k x1300000 x1300001 x6 x7 (y1318 ++ y1321)).bind fun t1328 => (some (!t1328))) else (none))) else (none)) else (none))) else (none))) else (none)) else (none))) else (some false))))
end
def laws_FnFlowCut.f (k : Nat) (l0 : List Int) (l1 : List Int) : Option (Bool) := if (l0.length : Int) > 1048576 then (laws_FnFlowCut.j0 k l0 l1 true) else (laws_FnFlowCut.j0 k l0 l1 (decide ((l1.length : Int) > 1048576)))
theorem laws_FnFlowCut.mono_l : ∀ k, (∀ y0 y1 y2, LeO (laws_FnFlowCut.j0 k y0 y1 y2) (laws_FnFlowCut.j0 (k + 1) y0 y1 y2)) ∧ (∀ y0 y1 y2 y3 y4 y5 y6 y7 y8 y9, LeO (laws_FnFlowCut.j1 k y0 y1 y2 y3 y4 y5 y6 y7 y8 y9) (laws_FnFlowCut.j1 (k + 1) y0 y1 y2 y3 y4 y5 y6 y7 y8 y9))
 | 0 => ⟨fun _ _ _ r h => by simp [laws_FnFlowCut.j0] at h, fun _ _ _ _ _ _ _ _ _ _ r h => by simp [laws_FnFlowCut.j1] at h⟩
 | k + 1 => by
  obtain ⟨ih0, ih1⟩ := laws_FnFlowCut.mono_l k
  refine ⟨?_, ?_⟩
  ·intro y0 y1 y2
   unfold laws_FnFlowCut.j0
   have m0_ := @impl_FlowCut.mono
   have m1_ := @impl_FlowParts.mono
   have m2_ := @laws_loTies.mono
   have m3_ := @spec_DrawFlowCut.mono
   have m4_ := @spec_FlowCut.mono
   exact mo_
  ·intro y0 y1 y2 y3 y4 y5 y6 y7 y8 y9
   unfold laws_FnFlowCut.j1
   have m0_ := @impl_FlowCut.mono
   have m1_ := @impl_FlowParts.mono
   have m2_ := @laws_loTies.mono
   have m3_ := @spec_DrawFlowCut.mono
   have m4_ := @spec_FlowCut.mono
   exact mo_
theorem laws_FnFlowCut.mono : ∀ a0 a1 k, LeO (laws_FnFlowCut.f k a0 a1) (laws_FnFlowCut.f (k + 1) a0 a1) := by
 intro a0 a1 k
 obtain ⟨ih0, ih1⟩ := laws_FnFlowCut.mono_l k
 unfold laws_FnFlowCut.f
 have m0_ := @impl_FlowCut.mono
 have m1_ := @impl_FlowParts.mono
 have m2_ := @laws_loTies.mono
 have m3_ := @spec_DrawFlowCut.mono
 have m4_ := @spec_FlowCut.mono
 exact mo_
def laws_FnFlowCut.T9 : Bool × List (List Nat × List Nat) := (true, [([], []), ([], []), ([], []), ([], []), ([0, 1, 2, 3], [0, 1, 2, 3]), ([4, 4], [4]), ([5], [5]), ([5], [5]), ([5], [5]), ([5], [5]), ([5], [5]), ([5], [5]), ([10, 11, 5], [5, 10, 11]), ([9, 12, 5, 5], [5, 9, 12]), ([5], [5]), ([5], [5]), ([15, 5], [5, 15]), ([14, 16, 5], [5, 14, 16]), ([13, 17, 13, 5], [5, 13, 17]), ([6, 7, 8, 18, 18, 5], [5, 6, 7, 8, 18]), ([19, 5], [5, 19]), ([5, 20], [5, 20]), ([21, 19, 0, 1, 2, 3, 4, 5, 6, 7, 8, 9, 10, 11, 12, 13, 14, 15, 16, 17, 18, 19, 20, 21], [21])])
def laws_FnFlowCut.B9 : List Nat := [0, 0, 0, 0, 15, 31, 63, 63, 63, 63, 63, 63, 3135, 7743, 63, 63, 32831, 114751, 261695, 524287, 1048575, 2097151, 4194303]
theorem laws_FnFlowCut.tab9 : rtab .any (opsOf Try.f20 9) = laws_FnFlowCut.T9 := by kernel_rfl
theorem laws_FnFlowCut.bits9 : waitsOk laws_FnFlowCut.T9.2 laws_FnFlowCut.B9 = true := by kernel_rfl
set_option maxHeartbeats 8000000 in
set_option maxRecDepth 100000 in
theorem laws_FnFlowCut.calls (k : Nat) (A0 : Option Addr) (c0 : Nat) (l0 : List Int) (A1 : Option Addr) (c1 : Nat) (l1 : List Int) (r : Bool) (w : World) (hr0 : Kd.C (Kd.int .u8) w A0 l0.length l0) (hc0 : l0.length ≤ c0) (hr1 : Kd.C (Kd.int .u8) w A1 l1.length l1) (hc1 : l1.length ≤ c1) (hrt : Aside0 (r = true)) (h : laws_FnFlowCut.f k l0 l1 = some r) :
  Calls Try.prog 20 #[.slice A0 l0.length c0, .slice A1 l1.length c1] w fun e w' => e = .returned (.bool r) ∧ Below w.heap.size w w' := by
 have hu34 := Try.underlying34
 have HR0 := am hr0
 have HC0 := am hc0
 clear hr0 hc0
 have HR1 := am hr1
 have HC1 := am hc1
 clear hr1 hc1
 have HB := am (Below.refl w.heap.size w)
 have H : (if (l0.length : Int) > 1048576 then (laws_FnFlowCut.j0 k l0 l1 true) else (laws_FnFlowCut.j0 k l0 l1 (decide ((l1.length : Int) > 1048576)))) = some r := h
 clear h
 have HC3 := am H
 clear H
 go_enter Try.func20, Try.ntmps20
 go_upto_region 1 with (fail)
 go_cut [20] (fun v20 wc => ∃ (kq : Nat) (x20_2 : Bool), v20 = .bool x20_2 ∧ Aside0 (laws_FnFlowCut.j0 kq l0 l1 x20_2 = some r) ∧ Aside0 (kq ≤ k) ∧ Aside0 (Below w.heap.size w wc))
 case first =>
  have H := HC3.out
  clear HC3
  by_cases c4 : (l0.length : Int) > 1048576
  ·rw [if_pos c4] at H
   have c4b0 := decide_eq_true c4
   have c4b1 : decide (1048576 < l0.length) = true := decide_eq_true (by omega)
   clear c4
   (first | rw [c4b0] | (simp only [i64_w, i32_w]; rw [c4b0]) | skip)
   have H' := am H
   clear H
   go_wp2
   go_meet
   case rel => exact ⟨_, (true), (by first | rfl | (simp; done) | (simp [*]; done)), H', ⟨by first | omega | exact Nat.le_refl _⟩, ⟨bn HB⟩⟩
  ·rw [if_neg c4] at H
   have c4b0 := decide_eq_false c4
   have c4b1 : decide (1048576 < l0.length) = false := decide_eq_false (by omega)
   clear c4
   (first | rw [c4b0] | (simp only [i64_w, i32_w]; rw [c4b0]) | skip)
   have H' := am H
   clear H
   go_wp2
   go_meet
   case rel => exact ⟨_, (decide ((l1.length : Int) > 1048576)), (by first | rfl | (simp; done) | (simp [*]; done)), H', ⟨by first | omega | exact Nat.le_refl _⟩, ⟨bn HB⟩⟩
 case rest =>
  clear HC3
  try clear c1
  try clear c2
  try clear p2
  try clear c4
  try clear c4b0
  try clear c4b1
  obtain ⟨kq, x20_2, rfl, HA, HJ2, HB⟩ := hcut
  cases kq with
  | zero => exact absurd HA.out (by simp [laws_FnFlowCut.j0])
  | succ kj2 =>
   have H := HA.out
   clear HA
   simp only [laws_FnFlowCut.j0] at H
   by_cases c5 : x20_2 = true
   ·subst c5
    rw [if_pos rfl] at H
    obtain rfl := Option.some.inj H
    go_wp2
    go_ret
    exact ⟨by first | rfl | (simp [errW_none, errW_some] <;> rfl) | (simp [*, errW_none, errW_some] <;> rfl), bn HB⟩
   ·replace c5 := Bool.eq_false_iff.mpr c5
    subst c5
    rw [if_neg (show ¬ (false = true) by decide)] at H
    replace H := Option.bind_eq_some_iff.mp H
    obtain ⟨⟨t1293, t1294, t1297, t1298⟩, A60, H⟩ := H
    (try dsimp only at H)
    have A6 := am A60
    clear A60
    replace H := Option.bind_eq_some_iff.mp H
    obtain ⟨⟨t1300, t1303⟩, A70, H⟩ := H
    (try dsimp only at H)
    have A7 := am A70
    clear A70
    replace H := Option.bind_eq_some_iff.mp H
    obtain ⟨⟨t1304, t1307⟩, A80, H⟩ := H
    (try dsimp only at H)
    have A8 := am A80
    clear A80
    have HC9 := am H
    clear H
    go_upto_region 6 with (first | ((with_reducible refine gate_callee (f := 70) rfl ?_); refine gl_ (some 23) Try.func70 #[.slice A0 l0.length c0] ?_; (with_reducible refine (spec_DrawFlowCut.calls kj2 _ _ l0 t1293 t1294 t1297 t1298 _ ?side1 ?side2 A6.out).mono ?_); (case side1 => exact cb HR0 HB); (case side2 => exact HC0.out); rintro e w10 ⟨v1295, rfl, ho0, hb⟩; refine ⟨_, rfl, ?_⟩; have HO1296 := am (Kd.R_lower ho0 (below_size (bn HB))); replace HB := bs HB hb; (try clear hb); (try clear ho0)) | ((with_reducible refine gate_dst (N := 5) rfl ?_); refine be_ 5 #[.int .i64 0, .slice none 0 0] 34 ?_; intro gb1299 hg w11 hbox hb; replace HO1296 := am (Kd.R_below (onR HO1296) hb); have BK1299 := am hbox; have GW1299 := am (ge_ hg HB); have GE1299 := am (ge_ hg HB); replace HB := bs HB hb; clear hb hbox hg; obtain ⟨hcz12_0, hcz12_1, hfz12_0, hfz12_1⟩ := c2 BK1299; obtain ⟨Ao13, co13, eo13⟩ := Kd.R_slice HO1296.out; subst eo13) | ((with_reducible refine gate_callee (f := 50) rfl ?_); refine gl_ (some 31) Try.func50 #[.agg #[.int .i64 t1293, .slice Ao13 t1294.length co13], .int .i64 t1297, .int .i64 t1298] ?_; (with_reducible refine (spec_FlowCut.calls kj2 t1293 _ _ t1294 t1297 t1298 t1300 t1303 _ ?side1 ?side2 A7.out).mono ?_); (case side1 => refine (Kd.R_reads' (e := 73) (base := w.heap.size) (ok := fun k_ => True) (n := t1294.length) (c := co13) ?_).2.2; exact (by (with_reducible repeat (first | apply Kd.R_alloc | apply Kd.R_drewN | apply Kd.R_drew)); exact (Kd.R_mono (Kd.R_far (p := ⟨gb1299, 1, none⟩) (Kd.R_far (p := ⟨gb1299, 0, none⟩) (Kd.R_types HO1296.out BK1299.out (by decide)) (fun _ hk => hk.2) (.int .i64 t1293)) (fun _ hk => hk.2) (.slice Ao13 t1294.length co13)) (fun _ h_ => h_.1)))); (case side2 => exact (Kd.R_reads' HO1296.out).2.1); rintro e w14 ⟨v1301, rfl, ho0, hb⟩; refine ⟨_, rfl, ?_⟩; have HO1302 := am (Kd.R_lower (Kd.R_new' ho0 (Kd.R_lt (by (with_reducible repeat (first | apply Kd.R_alloc | apply Kd.R_drewN | apply Kd.R_drew)); exact (Kd.R_mono (Kd.R_far (p := ⟨gb1299, 1, none⟩) (Kd.R_far (p := ⟨gb1299, 0, none⟩) (Kd.R_types HO1296.out BK1299.out (by decide)) (fun _ hk => hk.2) (.int .i64 t1293)) (fun _ hk => hk.2) (.slice Ao13 t1294.length co13)) (fun _ h_ => h_.1))))) (below_size (bn HB))); replace HO1296 := am (Kd.R_elder' (by (with_reducible repeat (first | apply Kd.R_alloc | apply Kd.R_drewN | apply Kd.R_drew)); exact (Kd.R_mono (Kd.R_far (p := ⟨gb1299, 1, none⟩) (Kd.R_far (p := ⟨gb1299, 0, none⟩) (Kd.R_types HO1296.out BK1299.out (by decide)) (fun _ hk => hk.2) (.int .i64 t1293)) (fun _ hk => hk.2) (.slice Ao13 t1294.length co13)) (fun _ h_ => h_.1))) (Kd.R_base ho0) hb); replace BK1299 := am (blk_below (g := gb1299) (o := .cells #[.int .i64 t1293, .slice Ao13 t1294.length co13] 34 (0, 0)) (by (with_reducible repeat (first | refine blk_drewN ?_ _ | refine blk_drew ?_ | refine blk_alloc ?_ _)); refine blk_put (cs := #[.int .i64 t1293, .slice none 0 0]) ?_ 1 _ rfl; (with_reducible repeat (first | refine blk_drewN ?_ _ | refine blk_drew ?_ | refine blk_alloc ?_ _)); refine blk_put (cs := #[.int .i64 0, .slice none 0 0]) ?_ 0 _ rfl; (with_reducible repeat (first | refine blk_drewN ?_ _ | refine blk_drew ?_ | refine blk_alloc ?_ _)); exact BK1299.out) hb); replace HB := bs HB hb; (try clear hb); (try clear ho0); obtain ⟨hcz15_0, hcz15_1, hfz15_0, hfz15_1⟩ := c2 BK1299) | ((with_reducible refine gate_callee (f := 51) rfl ?_); refine gl_ (some 38) Try.func51 #[.agg #[.int .i64 t1293, .slice Ao13 t1294.length co13], .int .i64 t1297, .int .i64 t1298] ?_; (with_reducible refine (impl_FlowCut.calls kj2 t1293 (fun k_ => some k_ = (.slice Ao13 t1294.length co13 : Value).ownBlock) _ _ t1294 t1297 t1298 t1304 t1307 _ ?side1 A8.out).mono ?_); (case side1 => exact Kd.R_V (Kd.R_tight rfl (Kd.R_types (HO1296.out) BK1299.out (by decide)))); rintro e w16 ⟨v1305, rfl, ho0, hb⟩; refine ⟨_, rfl, ?_⟩; have HO1306 := am (Kd.R_lower (Kd.R_new' (Kd.R_new' (Kd.R_mono (ok' := fun k_ => True) ho0 (fun _ hk_ => trivial)) (Kd.R_lt (onR HO1296))) (Kd.R_lt (onR HO1302))) (below_size (bn HB))); replace HO1296 := am (Kd.R_elder' (onR HO1296) (Kd.R_base ho0) hb); replace HO1302 := am (Kd.R_elder' (onR HO1302) (Kd.R_base ho0) hb); replace BK1299 := bb BK1299 hb; replace HB := bs HB hb; (try clear hb); (try clear ho0)))
    (try simp only [Act.put, List.setIfInBounds_toArray, List.set_cons_zero, List.set_cons_succ])
    go_cut [54] (fun v54 wc => ∃ (kq : Nat) (x54_8 : Bool), v54 = .bool x54_8 ∧ Aside0 (laws_FnFlowCut.j1 kq l1 t1297 t1298 t1300 t1303 t1304 t1307 x54_8 t1293 t1294 = some r) ∧ Aside0 (kq ≤ kj2) ∧ Aside0 (Kd.R k73 73 wc w.heap.size (fun k_ => some k_ ≠ (v1305 : Value).ownBlock ∧ some k_ ≠ ((.slice Ao13 t1294.length co13) : Value).ownBlock) v1301 t1300) ∧ Aside0 (Kd.R k73 73 wc w.heap.size (fun k_ => some k_ ≠ (v1301 : Value).ownBlock ∧ some k_ ≠ ((.slice Ao13 t1294.length co13) : Value).ownBlock) v1305 t1304) ∧ Aside0 (Kd.R k73 73 wc w.heap.size (fun k_ => some k_ ≠ (v1301 : Value).ownBlock ∧ some k_ ≠ (v1305 : Value).ownBlock) (.slice Ao13 t1294.length co13) t1294) ∧ Aside0 (wc.heap[gb1299]? = some (.cells #[.int .i64 t1293, (.slice Ao13 t1294.length co13)] 34 (0, 0))) ∧ Aside0 (Below w.heap.size w wc))
    case first =>
     have H := HC9.out
     clear HC9
     by_cases c17 : (t1307 != t1303) = true
     ·rw [if_pos c17] at H
      have c17b0 : (t1307 != t1303) = true := c17
      (try (have c17b1 : decide (t1307 = t1303) = false := by simpa using c17))
      (try (have c17b2 : (t1307 == t1303) = false := by simpa using c17))
      (try (have c17b3 : ¬ (t1307 = t1303) := by simpa using c17))
      clear c17
      (first | rw [c17b0] | (simp only [i64_w, i32_w]; rw [c17b0]) | skip)
      have H' := am H
      clear H
      go_wp2
      go_meet
      case rel => exact ⟨_, (true), (by first | rfl | (simp; done) | (simp [*]; done)), H', ⟨by have := HJ2.out; first | omega | exact Nat.le_refl _⟩, ⟨by (with_reducible repeat (first | apply Kd.R_alloc | apply Kd.R_drewN | apply Kd.R_drew)); exact Kd.R_mono HO1302.out (fun _ hk => ⟨hk.2, hk.1.2⟩)⟩, ⟨by (with_reducible repeat (first | apply Kd.R_alloc | apply Kd.R_drewN | apply Kd.R_drew)); exact Kd.R_mono HO1306.out (fun _ hk => ⟨hk.2, hk.1.2⟩)⟩, ⟨by (with_reducible repeat (first | apply Kd.R_alloc | apply Kd.R_drewN | apply Kd.R_drew)); exact Kd.R_mono HO1296.out (fun _ hk => ⟨hk.1.2, hk.2⟩)⟩, ⟨bkn BK1299⟩, ⟨bn HB⟩⟩
     ·rw [if_neg c17] at H
      have c17b0 : (t1307 != t1303) = false := by simpa using c17
      (try (have c17b1 : decide (t1307 = t1303) = true := by simpa using c17))
      (try (have c17b2 : (t1307 == t1303) = true := by simpa using c17))
      clear c17
      (first | rw [c17b0] | (simp only [i64_w, i32_w]; rw [c17b0]) | skip)
      replace H := Option.bind_eq_some_iff.mp H
      obtain ⟨t1308, A180, H⟩ := H
      (try dsimp only at H)
      have A18 := am A180
      clear A180
      by_cases c19 : t1308 = true
      ·subst c19
       rw [if_pos rfl] at H
       have H' := am H
       clear H
       obtain ⟨Ao20, co20, eo20⟩ := Kd.R_slice HO1306.out
       subst eo20
       obtain ⟨Ao21, co21, eo21⟩ := Kd.R_slice HO1302.out
       subst eo21
       go_wp2_with (first | (go_at_call 57; (with_reducible refine (laws_loTies.calls kj2 _ _ t1304 _ _ t1300 true _ ?side1 ?side2 ?side3 ?side4 A18.out).mono ?_); (case side1 => exact (Kd.R_reads' (onR HO1306)).2.2); (case side2 => exact (Kd.R_reads' HO1306.out).2.1); (case side3 => exact (Kd.R_reads' (onR HO1302)).2.2); (case side4 => exact (Kd.R_reads' HO1302.out).2.1); rintro e w' ⟨rfl, ⟨nd, rfl⟩⟩))
       go_meet
       case rel => exact ⟨_, (((t1304.length : Int) == 0)), (by first | rfl | (simp; done) | (simp [*]; done)), H', ⟨by have := HJ2.out; first | omega | exact Nat.le_refl _⟩, ⟨by (with_reducible repeat (first | apply Kd.R_alloc | apply Kd.R_drewN | apply Kd.R_drew)); exact Kd.R_mono HO1302.out (fun _ hk => ⟨hk.2, hk.1.2⟩)⟩, ⟨by (with_reducible repeat (first | apply Kd.R_alloc | apply Kd.R_drewN | apply Kd.R_drew)); exact Kd.R_mono HO1306.out (fun _ hk => ⟨hk.2, hk.1.2⟩)⟩, ⟨by (with_reducible repeat (first | apply Kd.R_alloc | apply Kd.R_drewN | apply Kd.R_drew)); exact Kd.R_mono HO1296.out (fun _ hk => ⟨hk.1.2, hk.2⟩)⟩, ⟨bkn BK1299⟩, ⟨bn HB⟩⟩
      ·replace c19 := Bool.eq_false_iff.mpr c19
       subst c19
       rw [if_neg (show ¬ (false = true) by decide)] at H
       have H' := am H
       clear H
       obtain ⟨Ao22, co22, eo22⟩ := Kd.R_slice HO1306.out
       subst eo22
       obtain ⟨Ao23, co23, eo23⟩ := Kd.R_slice HO1302.out
       subst eo23
       go_wp2_with (first | (go_at_call 57; (with_reducible refine (laws_loTies.calls kj2 _ _ t1304 _ _ t1300 false _ ?side1 ?side2 ?side3 ?side4 A18.out).mono ?_); (case side1 => exact (Kd.R_reads' (onR HO1306)).2.2); (case side2 => exact (Kd.R_reads' HO1306.out).2.1); (case side3 => exact (Kd.R_reads' (onR HO1302)).2.2); (case side4 => exact (Kd.R_reads' HO1302.out).2.1); rintro e w' ⟨rfl, ⟨nd, rfl⟩⟩))
       go_meet
       case rel => exact ⟨_, (true), (by first | rfl | (simp; done) | (simp [*]; done)), H', ⟨by have := HJ2.out; first | omega | exact Nat.le_refl _⟩, ⟨by (with_reducible repeat (first | apply Kd.R_alloc | apply Kd.R_drewN | apply Kd.R_drew)); exact Kd.R_mono HO1302.out (fun _ hk => ⟨hk.2, hk.1.2⟩)⟩, ⟨by (with_reducible repeat (first | apply Kd.R_alloc | apply Kd.R_drewN | apply Kd.R_drew)); exact Kd.R_mono HO1306.out (fun _ hk => ⟨hk.2, hk.1.2⟩)⟩, ⟨by (with_reducible repeat (first | apply Kd.R_alloc | apply Kd.R_drewN | apply Kd.R_drew)); exact Kd.R_mono HO1296.out (fun _ hk => ⟨hk.1.2, hk.2⟩)⟩, ⟨bkn BK1299⟩, ⟨bn HB⟩⟩
    case rest =>
     clear HC9
     try clear c1
     try clear c2
     try clear p2
     try clear c4
     try clear c4b0
     try clear c4b1
     try clear c5
     try clear c7
     try clear c17
     try clear c17b0
     try clear c17b1
     try clear c17b2
     try clear c19
     try clear c20
     try clear hcz12_0 hcz12_1 hfz12_0 hfz12_1
     try clear hcz15_0 hcz15_1 hfz15_0 hfz15_1
     try clear p2
     obtain ⟨kq, x54_8, rfl, HA, HJ8, HO_8, HO_10, HO_1300001, BK1299, HB⟩ := hcut
     cases kq with
     | zero => exact absurd HA.out (by simp [laws_FnFlowCut.j1])
     | succ kj8 =>
      have H := HA.out
      clear HA
      simp only [laws_FnFlowCut.j1] at H
      by_cases c24 : x54_8 = true
      ·subst c24
       rw [if_pos rfl] at H
       by_cases c25 : (t1307 == t1303) = true
       ·rw [if_pos c25] at H
        have c25b0 : (t1307 == t1303) = true := c25
        (try (have c25b1 : decide (t1307 = t1303) = true := by simpa using c25))
        (try (have c25b2 : (t1307 == t1303) = true := by simpa using c25))
        clear c25
        replace H := Option.bind_eq_some_iff.mp H
        obtain ⟨t1309, A260, H⟩ := H
        (try dsimp only at H)
        have A26 := am A260
        clear A260
        obtain rfl := Option.some.inj H
        obtain ⟨Ao27, co27, eo27⟩ := Kd.R_slice HO_10.out
        subst eo27
        obtain ⟨Ao28, co28, eo28⟩ := Kd.R_slice HO_8.out
        subst eo28
        go_wp2_with (first | (go_at_call 57; (with_reducible refine (laws_loTies.calls kj8 _ _ t1304 _ _ t1300 t1309 _ ?side1 ?side2 ?side3 ?side4 A26.out).mono ?_); (case side1 => exact (Kd.R_reads' (onR HO_10)).2.2); (case side2 => exact (Kd.R_reads' HO_10.out).2.1); (case side3 => exact (Kd.R_reads' (onR HO_8)).2.2); (case side4 => exact (Kd.R_reads' HO_8.out).2.1); rintro e w' ⟨rfl, ⟨nd, rfl⟩⟩))
        go_ret
        exact ⟨by first | rfl | (simp [errW_none, errW_some] <;> rfl) | (simp [*, errW_none, errW_some] <;> rfl), bn HB⟩
       ·rw [if_neg c25] at H
        have c25b0 : (t1307 == t1303) = false := by simpa using c25
        (try (have c25b1 : decide (t1307 = t1303) = false := by simpa using c25))
        (try (have c25b2 : (t1307 == t1303) = false := by simpa using c25))
        (try (have c25b3 : ¬ (t1307 = t1303) := by simpa using c25))
        clear c25
        exact absurd (Option.some.inj H) (by rw [hrt.out]; decide)
      ·replace c24 := Bool.eq_false_iff.mpr c24
       subst c24
       rw [if_neg (show ¬ (false = true) by decide)] at H
       by_cases c29 : (t1304.length : Int) = 0
       ·rw [if_pos c29] at H
        exact absurd H (by simp)
       ·rw [if_neg c29] at H
        have c29b0 : ((t1304.length : Int) == 0) = false := beq_eq_false_iff_ne.mpr c29
        have c29b1 : ((t1304.length : Int) != 0) = true := bne_iff_ne.mpr c29
        have c29b2 : ¬ (t1304 = []) := fun h_ => c29 (by rw [h_]; rfl)
        replace H := Option.bind_eq_some_iff.mp H
        obtain ⟨t1310, A300, H⟩ := H
        (try dsimp only at H)
        have A30 := am A300
        clear A300
        by_cases c31 : t1310 = true
        ·subst c31
         rw [if_pos rfl] at H
         obtain ⟨y1311, hy1311⟩ : ∃ y_ : List (S73), y_ = (([] : List (S73))) := ⟨_, rfl⟩
         replace H : (if 0 ≤ ((l1.length : Int) % (t1304.length : Int)) then (if ((l1.length : Int) % (t1304.length : Int)) ≤ (t1304.length : Int) then ((some (t1304.take (((l1.length : Int) % (t1304.length : Int)) : Int).toNat : List (S73))).bind fun y1314 => (if y1311.length + y1314.length < 8796093022208 then ((some (y1311 ++ y1314 : List (S73))).bind fun y1318 => (if 0 ≤ (wrap64 (((l1.length : Int) % (t1304.length : Int)) + 1)) then (if (wrap64 (((l1.length : Int) % (t1304.length : Int)) + 1)) ≤ (t1304.length : Int) then ((some (t1304.drop ((wrap64 (((l1.length : Int) % (t1304.length : Int)) + 1)) : Int).toNat : List (S73))).bind fun y1321 => (if y1318.length + y1321.length < 8796093022208 then ((impl_FlowParts.f kj8 t1293 t1294 t1297 t1298 (y1318 ++ y1321)).bind fun t1328 => (some (!t1328))) else (none))) else (none)) else (none))) else (none))) else (none)) else (none)) = some r := nh_ hy1311 H
         have Ny1311 := am hy1311
         clear hy1311
         obtain ⟨ji32, hji32⟩ : ∃ j_ : Int, ((l1.length : Int) % (t1304.length : Int)) = j_ := ⟨_, rfl⟩
         replace H : (if 0 ≤ (ji32) then (if (ji32) ≤ (t1304.length : Int) then ((some (t1304.take ((ji32) : Int).toNat : List (S73))).bind fun y1314 => (if y1311.length + y1314.length < 8796093022208 then ((some (y1311 ++ y1314 : List (S73))).bind fun y1318 => (if 0 ≤ (wrap64 ((ji32) + 1)) then (if (wrap64 ((ji32) + 1)) ≤ (t1304.length : Int) then ((some (t1304.drop ((wrap64 ((ji32) + 1)) : Int).toNat : List (S73))).bind fun y1321 => (if y1318.length + y1321.length < 8796093022208 then ((impl_FlowParts.f kj8 t1293 t1294 t1297 t1298 (y1318 ++ y1321)).bind fun t1328 => (some (!t1328))) else (none))) else (none)) else (none))) else (none))) else (none)) else (none)) = some r := by first | (rw [hji32] at H; exact H) | (simp only [hji32] at H ⊢; exact H)
         (try rw [hji32] at A30)
         obtain ⟨c33, H⟩ := ig_ H
         have c33b0 := eq_true c33
         have c33b1 := decide_eq_true c33
         clear c33
         obtain ⟨c34, H⟩ := ig_ H
         have c34b0 := eq_true c34
         have c34b1 := decide_eq_true c34
         clear c34
         obtain ⟨y1314, hy1314⟩ : ∃ y_ : List (S73), y_ = (t1304.take ((ji32) : Int).toNat) := ⟨_, rfl⟩
         replace H : (if y1311.length + y1314.length < 8796093022208 then ((some (y1311 ++ y1314 : List (S73))).bind fun y1318 => (if 0 ≤ (wrap64 ((ji32) + 1)) then (if (wrap64 ((ji32) + 1)) ≤ (t1304.length : Int) then ((some (t1304.drop ((wrap64 ((ji32) + 1)) : Int).toNat : List (S73))).bind fun y1321 => (if y1318.length + y1321.length < 8796093022208 then ((impl_FlowParts.f kj8 t1293 t1294 t1297 t1298 (y1318 ++ y1321)).bind fun t1328 => (some (!t1328))) else (none))) else (none)) else (none))) else (none)) = some r := nh_ hy1314 H
         have Ny1314 := am hy1314
         clear hy1314
         obtain ⟨c35, H⟩ := ig_ H
         have LMc35 := am c35
         clear c35
         obtain ⟨y1318, hy1318⟩ : ∃ y_ : List (S73), y_ = (y1311 ++ y1314) := ⟨_, rfl⟩
         replace H : (if 0 ≤ (wrap64 ((ji32) + 1)) then (if (wrap64 ((ji32) + 1)) ≤ (t1304.length : Int) then ((some (t1304.drop ((wrap64 ((ji32) + 1)) : Int).toNat : List (S73))).bind fun y1321 => (if y1318.length + y1321.length < 8796093022208 then ((impl_FlowParts.f kj8 t1293 t1294 t1297 t1298 (y1318 ++ y1321)).bind fun t1328 => (some (!t1328))) else (none))) else (none)) else (none)) = some r := nh_ hy1318 H
         have Ny1318 := am hy1318
         clear hy1318
         obtain ⟨ji36, hji36⟩ : ∃ j_ : Int, (wrap64 ((ji32) + 1)) = j_ := ⟨_, rfl⟩
         replace H : (if 0 ≤ (ji36) then (if (ji36) ≤ (t1304.length : Int) then ((some (t1304.drop ((ji36) : Int).toNat : List (S73))).bind fun y1321 => (if y1318.length + y1321.length < 8796093022208 then ((impl_FlowParts.f kj8 t1293 t1294 t1297 t1298 (y1318 ++ y1321)).bind fun t1328 => (some (!t1328))) else (none))) else (none)) else (none)) = some r := by first | (rw [hji36] at H; exact H) | (simp only [hji36] at H ⊢; exact H)
         (try rw [hji36] at A30)
         have hji36w : (IntKind.i64.wrap ((ji32) + 1)) = ji36 := (i64_w _).trans hji36
         obtain ⟨c37, H⟩ := ig_ H
         have c37b0 := eq_true c37
         have c37b1 := decide_eq_true c37
         clear c37
         obtain ⟨c38, H⟩ := ig_ H
         have c38b0 := eq_true c38
         have c38b1 := decide_eq_true c38
         clear c38
         obtain ⟨y1321, hy1321⟩ : ∃ y_ : List (S73), y_ = (t1304.drop ((ji36) : Int).toNat) := ⟨_, rfl⟩
         replace H : (if y1318.length + y1321.length < 8796093022208 then ((impl_FlowParts.f kj8 t1293 t1294 t1297 t1298 (y1318 ++ y1321)).bind fun t1328 => (some (!t1328))) else (none)) = some r := nh_ hy1321 H
         have Ny1321 := am hy1321
         clear hy1321
         obtain ⟨c39, H⟩ := ig_ H
         have LMc39 := am c39
         clear c39
         obtain ⟨y1325, hy1325⟩ : ∃ y_ : List (S73), y_ = (y1318 ++ y1321) := ⟨_, rfl⟩
         replace H : ((impl_FlowParts.f kj8 t1293 t1294 t1297 t1298 y1325).bind fun t1328 => (some (!t1328))) = some r := nh_ hy1325 H
         have Ny1325 := am hy1325
         clear hy1325
         replace H := Option.bind_eq_some_iff.mp H
         obtain ⟨t1328, A400, H⟩ := H
         (try dsimp only at H)
         have A40 := am A400
         clear A400
         obtain rfl := Option.some.inj H
         obtain ⟨Ao41, co41, eo41⟩ := Kd.R_slice HO_10.out
         subst eo41
         try go_wp2
         replace HO_8 := am (Kd.R_drew HO_8.out)
         replace HO_10 := am (Kd.R_drew HO_10.out)
         replace HO_1300001 := am (Kd.R_drew HO_1300001.out)
         replace BK1299 := am (blk_drew BK1299.out)
         replace HB := am (below_drew1 HB.out)
         refine start_ (n := 23) (S := fun w' => w'.cell? ⟨gb1299, 0, none⟩ = some (.int .i64 t1293) ∧ w'.cell? ⟨gb1299, 1, none⟩ = some (.slice Ao13 t1294.length co13)) (ds := []) #[false, false, false, false, false, false, false, false, false, false, false, false, false, false, false, false, false, false, false, false, false, false, false] (by kernel_rfl) rfl rfl ⟨(bc BK1299 0), (bc BK1299 1)⟩ (fun hHeld => ?_); refine with_tabW laws_FnFlowCut.tab9 laws_FnFlowCut.bits9 (fun HT_ HW_ => ?_)
         generalize wc.drew = w42 at HO_8 HO_10 HO_1300001 BK1299 HB hHeld ⊢
         refine pz_ 1 (some 69) HT_ ?_
         refine pz_ 2 (some 70) HT_ ?_
         refine pz_ 3 (some 71) HT_ ?_
         refine tz_ 0 (some 68) HT_ HW_ hHeld ?_
         refine one_ (i := 4) (N := some 72) #[true, true, true, true, true, false, false, false, false, false, false, false, false, false, false, false, false, false, false, false, false, false, false] rfl rfl (one_of HT_.out (by kernel_rfl)) (by decide) (fun K hK => ?_)
         refine gg_ Try.func46 #[.agg #[.int .i64 t1293, .slice Ao13 t1294.length co13], .int .i64 t1297, .int .i64 t1298, .slice Ao41 t1304.length co41] ?_
         with_reducible refine (impl_FlowParts.calls kj8 t1293 _ _ t1294 t1297 t1298 _ _ t1304 true _ ?side1 ?side2 ?side3 ?side4 A30.out).mono ?_
         (case side1 => exact (Kd.R_reads' (onR HO_1300001)).2.2)
         (case side2 => exact (Kd.R_reads' HO_1300001.out).2.1)
         (case side3 => exact (Kd.R_reads' (onR HO_10)).2.2)
         (case side4 => exact (Kd.R_reads' HO_10.out).2.1)
         rintro e w43 ⟨rfl, hb⟩
         refine ⟨_, rfl, ?_⟩
         replace HO_8 := am (Kd.R_below (onR HO_8) hb)
         replace HO_10 := am (Kd.R_below (onR HO_10) hb)
         replace HO_1300001 := am (Kd.R_below (onR HO_1300001) hb)
         replace BK1299 := bb BK1299 hb
         replace HB := bs HB hb
         (try clear hb)
         (try clear hb2)
         (try clear hk)
         (try clear hi)
         refine hK.out _ _ ⟨(bc BK1299 0), (bc BK1299 1)⟩ (fun hHeld => ?_)
         clear hK K
         refine nz_ 72 ?_
         refine pz_ 5 (some 73) HT_ ?_
         refine pz_ 7 (some 75) HT_ ?_
         refine pz_ 8 (some 76) HT_ ?_
         refine pz_ 10 (some 78) HT_ ?_
         refine pz_ 11 (some 79) HT_ ?_
         have q46 : ((ji32) : Int) ≤ ((t1304.length : Int) : Int) := oa
         obtain ⟨i046, hi046, _, hsz46, _⟩ := info_parts info73
         have hroom46 : t1304.length ≤ co41 := (Kd.R_reads' HO_10.out).2.1
         have hcut46 := cut_to (P := Try.prog) 32 73 .i64 Try.underlying32 hi046 Ao41 t1304.length co41 (ji32) (oa) q46 hroom46
         have hy46 : y1314.length = ((ji32) : Int).toNat := (by rw [Ny1314.out, List.length_take]; omega)
         rw [← hy46] at hcut46
         clear hy46 hroom46 hi046 hsz46
         have q48 : ((ji36) : Int) ≤ ((t1304.length : Int) : Int) := oa
         obtain ⟨i048, hi048, _, hsz48, _⟩ := info_parts info73
         have hroom48 : t1304.length ≤ co41 := (Kd.R_reads' HO_10.out).2.1
         have q048 : (0 : Int) ≤ ((ji36) : Int) := oa
         have hcut48 := cut_from (P := Try.prog) 32 73 .i64 Try.underlying32 hi048 2 hsz48 Ao41 t1304.length co41 (ji36) q048 q48
         obtain ⟨A48, hA48⟩ : ∃ A1, A1 = (if co41 = ((ji36) : Int).toNat then Ao41 else (Ao41 : Option Addr).map (·.add (((ji36) : Int).toNat * 2))) := ⟨_, rfl⟩
         obtain ⟨c48, hc48⟩ : ∃ c1, c1 = co41 - ((ji36) : Int).toNat := ⟨_, rfl⟩
         have hy48 : y1321.length = t1304.length - ((ji36) : Int).toNat := (by rw [Ny1321.out, List.length_drop] <;> omega)
         rw [← hy48, ← hA48, ← hc48] at hcut48
         have KAz := am hA48
         have KCz := am hc48
         clear hA48 hc48 hy48 hroom48 hi048 hsz48
         refine pz_ 12 (some 80) HT_ ?_
         refine pz_ 14 (some 82) HT_ ?_
         refine pz_ 15 (some 83) HT_ ?_
         refine pz_ 16 (some 84) HT_ ?_
         refine pz_ 17 (some 85) HT_ ?_
         refine tz_ 6 (some 74) HT_ HW_ hHeld ?_
         refine one_ (i := 9) (N := some 77) #[true, true, true, true, true, true, true, true, true, true, true, true, true, false, true, true, true, true, false, false, false, false, false] rfl rfl (one_of HT_.out (by kernel_rfl)) (by decide) (fun K hK => ?_)
         refine Kd.R_lit_step k73 _ 73 ?hg (N := 77) ?hd (xs := ([] : List (S73))) (inner := []) (ok := fun _ => True) (okp := fun _ => True) ?hr ?hp (fun _ hk => hk) trivial (Below.refl _ _) (Nat.le_refl _) (by simp) ?_; (case hd => rfl); (case hg => rfl); (case hr => first | (go_simp; done) | (go_simp; rfl)); (case hp => exact (Reps.none _ _))
         intro v1312 w44 ho45 hb hg_ hnew_
         clear hg_ hnew_
         (first | rw [← Ny1311.out] at ho45 | (simp only [Int.reduceToNat] at ho45; rw [← Ny1311.out] at ho45))
         have n0_ := am (Kd.R_elder' (onR HO_8) (Kd.R_base ho45) hb)
         have n1_ := am (Kd.R_elder' (onR HO_10) (Kd.R_base ho45) hb)
         have n2_ := am (Kd.R_elder' (onR HO_1300001) (Kd.R_base ho45) hb)
         have n3_ := am (Kd.R_lower (Kd.R_new' (Kd.R_new' (Kd.R_new' ho45 (Kd.R_lt (onR HO_8))) (Kd.R_lt (onR HO_10))) (Kd.R_lt (onR HO_1300001))) (below_size (bn HB)))
         have n4_ := bb BK1299 hb
         have n5_ := bs HB hb
         clear HO_8 HO_10 HO_1300001 BK1299 HB
         have HO_8 := n0_
         have HO_10 := n1_
         have HO_1300001 := n2_
         have HO1313 := n3_
         have BK1299 := n4_
         have HB := n5_
         clear n0_ n1_ n2_ n3_ n4_ n5_ hb ho45
         have q46 : ((ji32) : Int) ≤ ((t1304.length : Int) : Int) := oa
         obtain ⟨i046, hi046, _, hsz46, _⟩ := info_parts info73
         have hroom46 : t1304.length ≤ co41 := (Kd.R_reads' HO_10.out).2.1
         have hC46 : Kd.C k73 _ Ao41 t1304.length t1304 := (Kd.R_reads' HO_10.out).2.2
         have hcut46 := cut_to (P := Try.prog) 32 73 .i64 Try.underlying32 hi046 Ao41 t1304.length co41 (ji32) (oa) q46 hroom46
         have hr46 := Kd.C_take (m := ((ji32) : Int).toNat) hC46 (by omega)
         have hy46 : y1314.length = ((ji32) : Int).toNat := (by rw [Ny1314.out, List.length_take]; omega)
         rw [← Ny1314.out] at hr46
         rw [← hy46] at hcut46
         have HR1317 := am hr46
         have HC1317 := am (show y1314.length ≤ co41 from by omega)
         clear hr46 hC46 hroom46 hi046 hsz46
         have KY46 := am hy46
         clear hy46
         have KL46 := am (show ((ji32) : Int).toNat ≤ t1304.length from by omega)
         replace q46 := eq_true q46
         refine hK.out _ _ ⟨(bc BK1299 0), (bc BK1299 1)⟩ (fun hHeld => ?_)
         clear hK K
         refine nz_ 77 ?_
         refine one_ (i := 13) (N := some 81) #[true, true, true, true, true, true, true, true, true, true, true, true, true, true, true, true, true, true, false, false, false, false, false] rfl rfl (one_of HT_.out (by kernel_rfl)) (by decide) (fun K hK => ?_)
         refine Kd.R_append_rows_step k73 (w0 := w) w.heap.size (by rfl) (.tmp 77) (.tmp 80) 32 73 (.agg #[(.int .i64 0), (.int .i64 0)]) 16 rfl Try.underlying32 info73 rfl (by decide) (by omega) v1312 y1311 y1314 _ _ _ (fun k_ => some k_ ≠ (v1301 : Value).ownBlock ∧ some k_ ≠ (.slice Ao41 t1304.length co41 : Value).ownBlock ∧ some k_ ≠ (.slice Ao13 t1294.length co13 : Value).ownBlock) (fun _ => False) rfl rfl ?aO ?aR (fun _ _ h => h) (fun _ h => h.elim) ?aF ?aB ?aS ?aL ?_
         (case aR => repeat (first | exact (by repeat (first | (with_reducible exact HR1317.out) | (with_reducible refine Kd.C_alloc ?_ _) | (with_reducible refine Kd.C_drewN ?_ _) | (with_reducible refine Kd.C_drew ?_) | exact HR1317.out)) | (with_reducible refine Kd.C_alloc ?_ _) | (with_reducible refine Kd.C_drewN ?_ _) | (with_reducible refine Kd.C_drew ?_)))
         (case aB => exact (bn HB))
         (case aF => exact (fun k_ hk => ⟨Kd.fresh' (Kd.R_lt (onR HO_8)) k_ hk, Kd.fresh' (Kd.R_lt (onR HO_10)) k_ hk, Kd.fresh' (Kd.R_lt (onR HO_1300001)) k_ hk⟩))
         (case aO => exact (by (with_reducible repeat (first | apply Kd.R_alloc | apply Kd.R_drewN | apply Kd.R_drew)); exact Kd.R_mono HO1313.out (fun _ hk => ⟨hk.1.1.2, ⟨hk.1.2, hk.2⟩⟩)))
         (case aS => exact (below_size (bn HB)))
         (case aL => have := LMc35.out; omega)
         intro v1319 w47 ho hb hg hat
         rw [← Ny1318.out] at ho
         have n0_ := am (Kd.R_after (ok := (fun k_ => some k_ ≠ (.slice Ao41 t1304.length co41 : Value).ownBlock ∧ some k_ ≠ (.slice Ao13 t1294.length co13 : Value).ownBlock)) (onR HO_8) hg hat)
         have n1_ := am (Kd.R_after (ok := (fun k_ => some k_ ≠ (v1301 : Value).ownBlock ∧ some k_ ≠ (.slice Ao13 t1294.length co13 : Value).ownBlock)) (onR HO_10) hg hat)
         have n2_ := am (Kd.R_after (ok := (fun k_ => some k_ ≠ (v1301 : Value).ownBlock ∧ some k_ ≠ (.slice Ao41 t1304.length co41 : Value).ownBlock)) (onR HO_1300001) hg hat)
         have n3_ := am (blk_grown (bkn BK1299) hg (Kd.R_ne HO1313.out BK1299.out (by decide)))
         have n4_ := am hb
         have n5_ := am ((show Kd.C k73 w47 Ao41 y1314.length y1314 from by rw [Ny1314.out]; exact Kd.C_take (m := ((ji32) : Int).toNat) ((Kd.R_reads' (Kd.R_after (ok := (fun k_ => some k_ ≠ (v1301 : Value).ownBlock ∧ some k_ ≠ (.slice Ao13 t1294.length co13 : Value).ownBlock)) (onR HO_10) hg hat)).2.2) KL46.out))
         have n6_ := am ho
         clear HO_8 HO_10 HO_1300001 BK1299 HB HR1317 HO1313
         have HO_8 := n0_
         have HO_10 := n1_
         have HO_1300001 := n2_
         have BK1299 := n3_
         have HB := n4_
         have HR1317 := n5_
         have HO1320 := n6_
         clear n0_ n1_ n2_ n3_ n4_ n5_ n6_ ho hb hg hat
         have q48 : ((ji36) : Int) ≤ ((t1304.length : Int) : Int) := oa
         obtain ⟨i048, hi048, _, hsz48, _⟩ := info_parts info73
         have hroom48 : t1304.length ≤ co41 := (Kd.R_reads' HO_10.out).2.1
         have hC48 : Kd.C k73 _ Ao41 t1304.length t1304 := (Kd.R_reads' HO_10.out).2.2
         have q048 : (0 : Int) ≤ ((ji36) : Int) := oa
         have hcut48 := cut_from (P := Try.prog) 32 73 .i64 Try.underlying32 hi048 2 hsz48 Ao41 t1304.length co41 (ji36) q048 q48
         have hr48 := Kd.C_drop (m := ((ji36) : Int).toNat) (c := co41) hC48 (by omega) hroom48
         have hA48 := KAz.out
         have hc48 := KCz.out
         have hy48 : y1321.length = t1304.length - ((ji36) : Int).toNat := (by rw [Ny1321.out, List.length_drop] <;> omega)
         rw [show (t1304).drop ((ji36) : Int).toNat = y1321 from Ny1321.out.symm] at hr48
         replace hr48 : Kd.C k73 _ A48 y1321.length y1321 := (by rw [hA48]; exact hr48)
         rw [← hy48, ← hA48, ← hc48] at hcut48
         have HR1324 := am hr48
         have HC1324 := am (show y1321.length ≤ c48 from by rw [hy48, hc48]; exact Nat.sub_le_sub_right hroom48 _)
         clear hr48 hC48 hroom48 hi048 hsz48 hc48
         have KY48 := am hy48
         have KA48 := am hA48
         clear hy48 hA48
         have KL48 := am (show ((ji36) : Int).toNat ≤ t1304.length from by omega)
         replace q48 := eq_true q48
         refine hK.out _ _ ⟨(bc BK1299 0), (bc BK1299 1)⟩ (fun hHeld => ?_)
         clear hK K
         refine nz_ 81 ?_
         refine one_ (i := 18) (N := some 86) #[true, true, true, true, true, true, true, true, true, true, true, true, true, true, true, true, true, true, true, false, false, false, false] rfl rfl (one_of HT_.out (by kernel_rfl)) (by decide) (fun K hK => ?_)
         refine Kd.R_append_rows_step k73 (w0 := w) w.heap.size (by rfl) (.tmp 81) (.tmp 85) 32 73 (.agg #[(.int .i64 0), (.int .i64 0)]) 16 rfl Try.underlying32 info73 rfl (by decide) (by omega) v1319 y1318 y1321 _ _ _ (fun k_ => some k_ ≠ (v1301 : Value).ownBlock ∧ some k_ ≠ (.slice Ao41 t1304.length co41 : Value).ownBlock ∧ some k_ ≠ (.slice Ao13 t1294.length co13 : Value).ownBlock) (fun _ => False) rfl rfl ?aO ?aR (fun _ _ h => h) (fun _ h => h.elim) ?aF ?aB ?aS ?aL ?_
         (case aR => repeat (first | exact (by repeat (first | (with_reducible exact HR1324.out) | (with_reducible refine Kd.C_alloc ?_ _) | (with_reducible refine Kd.C_drewN ?_ _) | (with_reducible refine Kd.C_drew ?_) | exact HR1324.out)) | (with_reducible refine Kd.C_alloc ?_ _) | (with_reducible refine Kd.C_drewN ?_ _) | (with_reducible refine Kd.C_drew ?_)))
         (case aB => exact (bn HB))
         (case aF => exact (fun k_ hk => ⟨Kd.fresh' (Kd.R_lt (onR HO_8)) k_ hk, Kd.fresh' (Kd.R_lt (onR HO_10)) k_ hk, Kd.fresh' (Kd.R_lt (onR HO_1300001)) k_ hk⟩))
         (case aO => exact (onR HO1320))
         (case aS => exact (below_size (bn HB)))
         (case aL => have := LMc39.out; omega)
         intro v1326 w49 ho hb hg hat
         rw [← Ny1325.out] at ho
         have n0_ := am (Kd.R_after (ok := (fun k_ => some k_ ≠ (.slice Ao41 t1304.length co41 : Value).ownBlock ∧ some k_ ≠ (.slice Ao13 t1294.length co13 : Value).ownBlock)) (onR HO_8) hg hat)
         have n1_ := am (Kd.R_after (ok := (fun k_ => some k_ ≠ (v1301 : Value).ownBlock ∧ some k_ ≠ (.slice Ao13 t1294.length co13 : Value).ownBlock)) (onR HO_10) hg hat)
         have n2_ := am (Kd.R_after (ok := (fun k_ => some k_ ≠ (v1301 : Value).ownBlock ∧ some k_ ≠ (.slice Ao41 t1304.length co41 : Value).ownBlock)) (onR HO_1300001) hg hat)
         have n3_ := am (blk_grown (bkn BK1299) hg (Kd.R_ne HO1320.out BK1299.out (by decide)))
         have n4_ := am hb
         have n5_ := am ((show Kd.C k73 w49 Ao41 y1314.length y1314 from by rw [Ny1314.out]; exact Kd.C_take (m := ((ji32) : Int).toNat) ((Kd.R_reads' (Kd.R_after (ok := (fun k_ => some k_ ≠ (v1301 : Value).ownBlock ∧ some k_ ≠ (.slice Ao13 t1294.length co13 : Value).ownBlock)) (onR HO_10) hg hat)).2.2) KL46.out))
         have n6_ := am ((show Kd.C k73 w49 A48 y1321.length y1321 from by rw [Ny1321.out, KA48.out]; exact Kd.C_drop (m := ((ji36) : Int).toNat) (c := co41) ((Kd.R_reads' (Kd.R_after (ok := (fun k_ => some k_ ≠ (v1301 : Value).ownBlock ∧ some k_ ≠ (.slice Ao13 t1294.length co13 : Value).ownBlock)) (onR HO_10) hg hat)).2.2) KL48.out ((Kd.R_reads' (Kd.R_after (ok := (fun k_ => some k_ ≠ (v1301 : Value).ownBlock ∧ some k_ ≠ (.slice Ao13 t1294.length co13 : Value).ownBlock)) (onR HO_10) hg hat)).2.1)))
         have n7_ := am ho
         clear HO_8 HO_10 HO_1300001 BK1299 HB HR1317 HR1324 HO1320
         have HO_8 := n0_
         have HO_10 := n1_
         have HO_1300001 := n2_
         have BK1299 := n3_
         have HB := n4_
         have HR1317 := n5_
         have HR1324 := n6_
         have HO1327 := n7_
         clear n0_ n1_ n2_ n3_ n4_ n5_ n6_ n7_ ho hb hg hat
         obtain ⟨Ao50, co50, eo50⟩ := Kd.R_slice HO1327.out
         (first | subst eo50 | (injection eo50 with f1_ f2_ f3_; have f4_ := f1_.symm; have f5_ := f3_.symm; clear f1_ f2_ f3_; subst f4_; subst f5_))
         refine hK.out _ _ ⟨(bc BK1299 0), (bc BK1299 1)⟩ (fun hHeld => ?_)
         clear hK K
         refine nz_ 86 ?_
         refine one_ (i := 19) (N := some 87) #[true, true, true, true, true, true, true, true, true, true, true, true, true, true, true, true, true, true, true, true, false, false, false] rfl rfl (one_of HT_.out (by kernel_rfl)) (by decide) (fun K hK => ?_)
         refine gg_ Try.func46 #[.agg #[.int .i64 t1293, .slice Ao13 t1294.length co13], .int .i64 t1297, .int .i64 t1298, .slice Ao50 y1325.length co50] ?_
         with_reducible refine (impl_FlowParts.calls kj8 t1293 _ _ t1294 t1297 t1298 _ _ y1325 t1328 _ ?side1 ?side2 ?side3 ?side4 A40.out).mono ?_
         (case side1 => exact (Kd.R_reads' (onR HO_1300001)).2.2)
         (case side2 => exact (Kd.R_reads' HO_1300001.out).2.1)
         (case side3 => exact (Kd.R_reads' (onR HO1327)).2.2)
         (case side4 => exact (Kd.R_reads' HO1327.out).2.1)
         rintro e w51 ⟨rfl, hb⟩
         refine ⟨_, rfl, ?_⟩
         replace HO_8 := am (Kd.R_below (onR HO_8) hb)
         replace HO_10 := am (Kd.R_below (onR HO_10) hb)
         replace HO_1300001 := am (Kd.R_below (onR HO_1300001) hb)
         replace HO1327 := am (Kd.R_below (onR HO1327) hb)
         replace BK1299 := bb BK1299 hb
         replace HR1317 := am (Kd.C_below (by repeat (first | (with_reducible exact HR1317.out) | (with_reducible refine Kd.C_alloc ?_ _) | (with_reducible refine Kd.C_drewN ?_ _) | (with_reducible refine Kd.C_drew ?_) | exact HR1317.out)) hb)
         replace HR1324 := am (Kd.C_below (by repeat (first | (with_reducible exact HR1324.out) | (with_reducible refine Kd.C_alloc ?_ _) | (with_reducible refine Kd.C_drewN ?_ _) | (with_reducible refine Kd.C_drew ?_) | exact HR1324.out)) hb)
         replace HB := bs HB hb
         (try clear hb)
         (try clear hb2)
         (try clear hk)
         (try clear hi)
         refine hK.out _ _ ⟨(bc BK1299 0), (bc BK1299 1)⟩ (fun hHeld => ?_)
         clear hK K
         refine nz_ 87 ?_
         refine pz_ 20 (some 88) HT_ ?_
         refine pz_ 21 (some 89) HT_ ?_
         refine pz_ 22 (some 4) HT_ ?_
         refine done_ (done_of HT_.out (by kernel_rfl)) ?_
         try go_wp2
         go_ret
         exact ⟨by first | rfl | (simp [errW_none, errW_some] <;> rfl) | (simp only [← hji32, ← hji36]; first | rfl | (simp [errW_none, errW_some] <;> rfl)) | (simp [*, errW_none, errW_some] <;> rfl), bn HB⟩
        ·replace c31 := Bool.eq_false_iff.mpr c31
         subst c31
         rw [if_neg (show ¬ (false = true) by decide)] at H
         exact absurd (Option.some.inj H) (by rw [hrt.out]; decide)

/-- what is to be proved of laws_FnFlowCut, without Go -/
def laws_FnFlowCut.Pure : Prop := ∀ (l0 : List Int) (l1 : List Int), (l0.length ≤ maxLen ∧ ∀ l0_ ∈ l0, ((Lit.int .u8 l0_).wf = true)) → (l1.length ≤ maxLen ∧ ∀ l1_ ∈ l1, ((Lit.int .u8 l1_).wf = true)) → ∃ k, laws_FnFlowCut.f k l0 l1 = some true

end Go.Proofs.Ytdlnnjgjfngccaa.F
