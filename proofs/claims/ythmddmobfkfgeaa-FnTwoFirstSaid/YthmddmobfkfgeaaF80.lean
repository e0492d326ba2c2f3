-- By oprint.py.
import Derived.Test.YthmddmobfkfgeaaF0
import Derived.Test.YthmddmobfkfgeaaF36
import Derived.Test.YthmddmobfkfgeaaF49
import Derived.Test.YthmddmobfkfgeaaF60
import Derived.Test.YthmddmobfkfgeaaF62
import Derived.Test.YthmddmobfkfgeaaF72
import Derived.Test.YthmddmobfkfgeaaF76
namespace Go.Proofs.Ythmddmobfkfgeaa.F
open Go.RowKit Go.Proofs.YthmddmobfkfgeaaW.PrintWords Go.Proofs.YthmddmobfkfgeaaW.PrintLast Go.Proofs.YthmddmobfkfgeaaW.PrintMore
attribute [local go_sem] max2_int min2_int max_two min_two max_three min_three max_four min_four
set_option linter.unusedVariables false
set_option linter.unusedSimpArgs false

/-! ### laws_FnTwoFirst: function 19 -/
mutual
def laws_FnTwoFirst.j0 : Nat → Int → Int → List Int → Bool → List Int → Bool → Bool → Int → List (S33) → Option (Bool)
 | 0, _, _, _, _, _, _, _, _, _ => none
 | k + 1, x4, x5, x6, x8, x9, x11, x52, x1574000, x1574001 => if x52 = true then (if (x11 == x8) = true then ((laws_loInts.f k x9 x6).bind fun t1589 => (some t1589)) else (some false)) else ((impl_WayAll.f k x1574000 x1574001 x4 x5).bind fun t1590 => (laws_FnTwoFirst.l0 k x4 x5 x9 t1590 0 x1574000 x1574001))
def laws_FnTwoFirst.l0 : Nat → Int → Int → List Int → List (List Int) → Int → Int → List (S33) → Option (Bool)
 | 0, _, _, _, _, _, _, _ => none
 | k + 1, x4, x5, x9, x12, x13, x1574000, x1574001 => if x13 < (x12.length : Int) then (if 0 ≤ x13 then ((laws_loInts.f k (rd_L6 x12 x13) x9).bind fun t1594 => (laws_FnTwoFirst.j2 k x4 x5 x9 x12 x13 (!t1594) x1574000 x1574001)) else (none)) else (laws_FnTwoFirst.j2 k x4 x5 x9 x12 x13 false x1574000 x1574001)
def laws_FnTwoFirst.j2 : Nat → Int → Int → List Int → List (List Int) → Int → Bool → Int → List (S33) → Option (Bool)
 | 0, _, _, _, _, _, _, _, _ => none
 | k + 1, x4, x5, x9, x12, x13, x77, x1574000, x1574001 => if x77 = true then (laws_FnTwoFirst.l1 k x4 x5 x9 x12 x13 0 x1574000 x1574001) else (some true)
def laws_FnTwoFirst.l1 : Nat → Int → Int → List Int → List (List Int) → Int → Int → Int → List (S33) → Option (Bool)
 | 0, _, _, _, _, _, _, _, _ => none
 | k + 1, x4, x5, x9, x12, x13, x14, x1574000, x1574001 => if x14 < (x12.length : Int) then (if 0 ≤ x13 then (if x13 < (x12.length : Int) then (if 0 ≤ x14 then ((impl_TwoOk.f k x1574000 x1574001 x4 x5 (rd_L6 x12 x13) (rd_L6 x12 x14)).bind fun t1597 => (if t1597 = true then (some false) else (laws_FnTwoFirst.l1 k x4 x5 x9 x12 x13 (wrap64 (x14 + 1)) x1574000 x1574001))) else (none)) else (none)) else (none)) else (laws_FnTwoFirst.l0 k x4 x5 x9 x12 (wrap64 (x13 + 1)) x1574000 x1574001)
end
def laws_FnTwoFirst.f (k : Nat) (l0 : List Int) : Option (Bool) := if (l0.length : Int) > 1048576 then (some true) else ((spec_DrawTwoFind.f k l0).bind fun bt1567 => ((spec_TwoFind.f k bt1567.1 bt1567.2.1 bt1567.2.2.1 bt1567.2.2.2).bind fun bt1574 => ((impl_TwoFind.f k bt1567.1 bt1567.2.1 bt1567.2.2.1 bt1567.2.2.2).bind fun bt1581 => (if (bt1581.2.2 != bt1574.2.2) = true then (laws_FnTwoFirst.j0 k bt1567.2.2.1 bt1567.2.2.2 bt1574.1 bt1574.2.2 bt1581.1 bt1581.2.2 true bt1567.1 bt1567.2.1) else ((laws_loInts.f k bt1581.1 bt1574.1).bind fun t1588 => (if t1588 = true then (laws_FnTwoFirst.j0 k bt1567.2.2.1 bt1567.2.2.2 bt1574.1 bt1574.2.2 bt1581.1 bt1581.2.2 (!bt1581.2.2) bt1567.1 bt1567.2.1) else (laws_FnTwoFirst.j0 k bt1567.2.2.1 bt1567.2.2.2 bt1574.1 bt1574.2.2 bt1581.1 bt1581.2.2 true bt1567.1 bt1567.2.1)))))))
theorem laws_FnTwoFirst.mono_l : ∀ k, (∀ a b c d e f g i j, LeO (laws_FnTwoFirst.j0 k a b c d e f g i j) (laws_FnTwoFirst.j0 (k + 1) a b c d e f g i j)) ∧ (∀ a b c d e f g, LeO (laws_FnTwoFirst.l0 k a b c d e f g) (laws_FnTwoFirst.l0 (k + 1) a b c d e f g)) ∧ (∀ a b c d e f g i, LeO (laws_FnTwoFirst.j2 k a b c d e f g i) (laws_FnTwoFirst.j2 (k + 1) a b c d e f g i)) ∧ (∀ a b c d e f g i, LeO (laws_FnTwoFirst.l1 k a b c d e f g i) (laws_FnTwoFirst.l1 (k + 1) a b c d e f g i))
 | 0 => ⟨fun _ _ _ _ _ _ _ _ _ r h => by simp [laws_FnTwoFirst.j0] at h, fun _ _ _ _ _ _ _ r h => by simp [laws_FnTwoFirst.l0] at h, fun _ _ _ _ _ _ _ _ r h => by simp [laws_FnTwoFirst.j2] at h, fun _ _ _ _ _ _ _ _ r h => by simp [laws_FnTwoFirst.l1] at h⟩
 | k + 1 => by
  obtain ⟨ih0, ih1, ih2, ih3⟩ := laws_FnTwoFirst.mono_l k; refine ⟨?_, ?_, ?_, ?_⟩
  ·intro a b c d e f g i j; unfold laws_FnTwoFirst.j0; have l := @impl_TwoFind.mono; have m := @impl_TwoOk.mono; have n := @impl_WayAll.mono; have o := @laws_loInts.mono; have p := @spec_DrawTwoFind.mono; have q := @spec_TwoFind.mono; exact mo_
  ·intro a b c d e f g; unfold laws_FnTwoFirst.l0; have l := @impl_TwoFind.mono; have m := @impl_TwoOk.mono; have n := @impl_WayAll.mono; have o := @laws_loInts.mono; have p := @spec_DrawTwoFind.mono; have q := @spec_TwoFind.mono; exact mo_
  ·intro a b c d e f g i; unfold laws_FnTwoFirst.j2; have l := @impl_TwoFind.mono; have m := @impl_TwoOk.mono; have n := @impl_WayAll.mono; have o := @laws_loInts.mono; have p := @spec_DrawTwoFind.mono; have q := @spec_TwoFind.mono; exact mo_
  ·intro a b c d e f g i; unfold laws_FnTwoFirst.l1; have l := @impl_TwoFind.mono; have m := @impl_TwoOk.mono; have n := @impl_WayAll.mono; have o := @laws_loInts.mono; have p := @spec_DrawTwoFind.mono; have q := @spec_TwoFind.mono; exact mo_
theorem laws_FnTwoFirst.mono : ∀ a k, LeO (laws_FnTwoFirst.f k a) (laws_FnTwoFirst.f (k + 1) a) := by
 intro a k; obtain ⟨ih0, ih1, ih2, ih3⟩ := laws_FnTwoFirst.mono_l k; unfold laws_FnTwoFirst.f; have m0_ := @impl_TwoFind.mono; have m1_ := @impl_TwoOk.mono; have m2_ := @impl_WayAll.mono; have m3_ := @laws_loInts.mono; have m4_ := @spec_DrawTwoFind.mono; have m5_ := @spec_TwoFind.mono; exact mo_
def laws_FnTwoFirst.T15 : Bool × List (List Nat × List Nat) := (true, [([], []), ([], []), ([], []), ([], []), ([], []), ([3, 4], [3, 4]), ([5], [5]), ([], []), ([], []), ([7, 8], [7, 8]), ([9], [9]), ([0, 1, 2, 6, 10], [0, 1, 2, 6, 10])])
def laws_FnTwoFirst.B15 : List Nat := [0, 0, 0, 0, 0, 24, 56, 0, 0, 384, 896, 2047]
theorem laws_FnTwoFirst.tab15 : rtab .any (opsOf Try.f19 15) = laws_FnTwoFirst.T15 := by kernel_rfl
theorem laws_FnTwoFirst.bits15 : waitsOk laws_FnTwoFirst.T15.2 laws_FnTwoFirst.B15 = true := by kernel_rfl
set_option maxHeartbeats 8000000 in
set_option maxRecDepth 100000 in
theorem laws_FnTwoFirst.calls (k : Nat) (A0 : Option Addr) (c0 : Nat) (l0 : List Int) (r : Bool) (w : World) (a0 : Kd.C (Kd.int .u8) w A0 l0.length l0) (a1 : l0.length ≤ c0) (hrt : Aside0 (r = true)) (h : laws_FnTwoFirst.f k l0 = some r) :
  Calls Try.prog 19 #[.slice A0 l0.length c0] w fun e w' => e = .returned (.bool r) ∧ Below w.heap.size w w' := by
 have ce := Try.underlying31; have bk := am a0; have bl := am a1; clear a0 a1; have HB := am (Below.refl w.heap.size w)
 have H : (if (l0.length : Int) > 1048576 then (some true) else ((spec_DrawTwoFind.f k l0).bind fun j => ((spec_TwoFind.f k j.1 j.2.1 j.2.2.1 j.2.2.2).bind fun W => ((impl_TwoFind.f k j.1 j.2.1 j.2.2.1 j.2.2.2).bind fun M => (if (M.2.2 != W.2.2) = true then (laws_FnTwoFirst.j0 k j.2.2.1 j.2.2.2 W.1 W.2.2 M.1 M.2.2 true j.1 j.2.1) else ((laws_loInts.f k M.1 W.1).bind fun aL => (if aL = true then (laws_FnTwoFirst.j0 k j.2.2.1 j.2.2.2 W.1 W.2.2 M.1 M.2.2 (!M.2.2) j.1 j.2.1) else (laws_FnTwoFirst.j0 k j.2.2.1 j.2.2.2 W.1 W.2.2 M.1 M.2.2 true j.1 j.2.1)))))))) = some r := h
 clear h; by_cases c2 : (l0.length : Int) > 1048576
 ·rw [if_pos c2] at H; have al := decide_eq_true c2; have an : decide (1048576 < l0.length) = true := decide_eq_true (by omega); clear c2; obtain rfl := Option.some.inj H; go_enter Try.func19, Try.ntmps19; go_wp2
  go_ret
  exact ⟨er_, bn HB⟩
 ·rw [if_neg c2] at H; have al := decide_eq_false c2; have an : decide (1048576 < l0.length) = false := decide_eq_false (by omega); clear c2; obtain ⟨⟨q, b, D, E⟩, A3, H⟩ := bi_ H; (try dsimp only at H); obtain ⟨⟨ab, bo, t⟩, A4, H⟩ := bi_ H; (try dsimp only at H); obtain ⟨⟨G, bp, s⟩, A5, H⟩ := bi_ H; (try dsimp only at H); have aM := am H; clear H; go_enter Try.func19, Try.ntmps19
  go_upto_region 6 with (first | ((with_reducible refine gate_callee (f := 73) rfl ?_); refine gl_ (some 20) Try.func73 #[.slice A0 l0.length c0] ?_; (with_reducible refine (spec_DrawTwoFind.calls k _ _ l0 q b D E _ ?z_1 ?z_2 A3.out).mono ?_); (case z_1 => repeat (first | exact bk.out | (with_reducible refine Kd.C_alloc ?_ _) | (with_reducible refine Kd.C_drewN ?_ _) | (with_reducible refine Kd.C_drew ?_))); (case z_2 => exact bl.out); rintro e w7 ⟨cf, rfl, A, hb⟩; refine ⟨_, rfl, ?_⟩; have y := am (Kd.R_lower A (below_size (bn HB))); replace HB := bs HB hb; (try clear hb A)) | ((with_reducible refine gate_dst (N := 3) rfl ?_); refine bx_ 3 #[.int .i64 0, .slice none 0 0] 31 HB ?_; clear HB; intro O hg w8 hb a cg HB; replace y := am (Kd.R_below (onR y) hb); clear hb hg; have ay := c2 a; obtain ⟨x, u, br⟩ := Kd.R_slice y.out; subst br) | ((with_reducible refine gate_callee (f := 69) rfl ?_); refine gl_ (some 28) Try.func69 #[.agg #[.int .i64 q, .slice x b.length u], .int .i64 D, .int .i64 E] ?_; (with_reducible refine (spec_TwoFind.calls k q _ _ b D E ab bo t _ ?z_1 ?z_2 A4.out).mono ?_); (case z_1 => refine (Kd.R_reads' (e := 33) (base := w.heap.size) (ok := fun k_ => True) (n := b.length) (c := u) ?_).2.2; exact (onR y)); (case z_2 => exact (Kd.R_reads' y.out).2.1); rintro e w11 ⟨bu, ch, rfl, A, Z, hb⟩; refine ⟨_, rfl, ?_⟩; have L := am (Kd.V_lower (Kd.V_mono (ok' := fun k_ => some k_ ≠ (.slice x b.length u : Value).ownBlock ∧ k_ ≠ O) A (fun k_ hk_ => ⟨(Kd.fresh' (Kd.R_lt (onR y)) k_ hk_), (Kd.freshB (g := O) (o := .cells #[.int .i64 q, .slice x b.length u] 31 (0, 0)) (bkn a) k_ hk_)⟩)) (below_size (bn HB))); have a2 := am (Kd.V_lower (Kd.V_mono (ok' := fun k_ => some k_ ≠ (.slice x b.length u : Value).ownBlock ∧ k_ ≠ O) Z (fun k_ hk_ => ⟨(Kd.fresh' (Kd.R_lt (onR y)) k_ hk_), (Kd.freshB (g := O) (o := .cells #[.int .i64 q, .slice x b.length u] 31 (0, 0)) (bkn a) k_ hk_)⟩)) (below_size (bn HB))); replace y := am (Kd.R_below (onR y) hb); replace a := bb a hb; replace HB := bs HB hb; (try clear hb A Z); have az := c2 a) | ((with_reducible refine gate_callee (f := 60) rfl ?_); refine gl_ (some 36) Try.func60 #[.agg #[.int .i64 q, .slice x b.length u], .int .i64 D, .int .i64 E] ?_; (with_reducible refine (impl_TwoFind.calls k q _ _ b D E G bp s _ ?z_1 ?z_2 A5.out).mono ?_); (case z_1 => exact (Kd.R_reads' (onR y)).2.2); (case z_2 => exact (Kd.R_reads' y.out).2.1); rintro e w13 ⟨X, ci, rfl, A, Z, hb⟩; refine ⟨_, rfl, ?_⟩; replace y := am (Kd.R_below (onR y) hb); replace L := am (Kd.V_mono (Kd.V_told (Kd.V_told (Kd.V_old (onV L) hb) (Kd.R_base A)) (Kd.R_base Z)) (fun _ h_ => h_.1)); replace a2 := am (Kd.V_mono (Kd.V_told (Kd.V_told (Kd.V_old (onV a2) hb) (Kd.R_base A)) (Kd.R_base Z)) (fun _ h_ => h_.1)); have P := am (Kd.R_lower A (below_size (bn HB))); have cj := am (Kd.R_lower Z (below_size (bn HB))); replace a := bb a hb; replace HB := bs HB hb; (try clear hb A Z)))
  (try simp only [Act.put, List.setIfInBounds_toArray, List.set_cons_zero, List.set_cons_succ])
  go_cut [52] (fun bv wc => ∃ (kq : Nat) (aA : Bool), bv = .bool aA ∧ Aside0 (laws_FnTwoFirst.j0 kq D E ab t G s aA q b = some r) ∧ Aside0 (kq ≤ k) ∧ Aside0 (Kd.V (Kd.int .i64) 3 wc w.heap.size (fun k_ => some k_ ≠ (X : Value).ownBlock ∧ some k_ ≠ ((.slice x b.length u) : Value).ownBlock ∧ k_ ≠ O) bu ab) ∧ Aside0 (Kd.R (Kd.int .i64) 3 wc w.heap.size (fun _ => True) X G) ∧ Aside0 (Kd.R k33 33 wc w.heap.size (fun _ => True) (.slice x b.length u) b) ∧ Bk wc O (.cells #[.int .i64 q, (.slice x b.length u)] 31 (0, 0)) ∧ Aside0 (Below w.heap.size w wc))
  case first =>
   have H := aM.out; clear aM; by_cases z : (s != t) = true
   ·rw [if_pos z] at H; have T : (s != t) = true := z; (try (have ap : decide (s = t) = false := by simpa using z)); (try (have aq : (s == t) = false := by simpa using z)); (try (have ck : ¬ (s = t) := by simpa using z)); clear z; (first | rw [T] | (simp only [i64_w, i32_w]; rw [T]) | skip); have H' := am H; clear H; go_wp2
    go_meet
    case rel => exact ⟨_, (true), rs_, H', ⟨by first | omega | exact Nat.le_refl _⟩, ⟨Kd.V_mono (onV L) (fun _ hk => ⟨hk.1.2, ⟨hk.1.1.1, hk.1.1.2⟩⟩)⟩, ⟨Kd.R_mono (onR P) (fun _ hk => trivial)⟩, ⟨onR y⟩, ⟨bkn a⟩, ⟨bn HB⟩⟩
   ·rw [if_neg z] at H; have T : (s != t) = false := by simpa using z
    (try (have ap : decide (s = t) = true := by simpa using z)); (try (have aq : (s == t) = true := by simpa using z)); clear z; (first | rw [T] | (simp only [i64_w, i32_w]; rw [T]) | skip); obtain ⟨aL, a3, H⟩ := bi_ H; by_cases ad : aL = true
    ·subst ad; rw [if_pos rfl] at H; have H' := am H; clear H; obtain ⟨cl, cm, bw⟩ := Kd.R_slice P.out; subst bw; obtain ⟨cn, co, bx⟩ := Kd.V_slice L.out; subst bx
     go_wp2_with (first | (go_at_call 49; (with_reducible refine (laws_loInts.calls k _ _ G _ _ ab true _ ?z_1 ?z_2 ?z_3 ?z_4 a3.out).mono ?_); (case z_1 => exact (Kd.R_reads' (onR P)).2.2); (case z_2 => exact (Kd.R_reads' P.out).2.1); (case z_3 => repeat (first | exact (Kd.V_reads' L.out).2.2 | (with_reducible refine Kd.C_alloc ?_ _) | (with_reducible refine Kd.C_drewN ?_ _) | (with_reducible refine Kd.C_drew ?_))); (case z_4 => exact (Kd.V_reads' L.out).2.1); rintro e w' ⟨rfl, ⟨nd, rfl⟩⟩))
     go_meet
     case rel => exact ⟨_, (!s), rs_, H', ⟨by first | omega | exact Nat.le_refl _⟩, ⟨Kd.V_mono (onV L) (fun _ hk => ⟨hk.1.2, ⟨hk.1.1.1, hk.1.1.2⟩⟩)⟩, ⟨Kd.R_mono (onR P) (fun _ hk => trivial)⟩, ⟨onR y⟩, ⟨bkn a⟩, ⟨bn HB⟩⟩
    ·obtain rfl := nt_ ad; rw [if_neg nf_] at H; have H' := am H; clear H; obtain ⟨cp, cq, bz⟩ := Kd.R_slice P.out; subst bz; obtain ⟨cr, cs, bA⟩ := Kd.V_slice L.out; subst bA
     go_wp2_with (first | (go_at_call 49; (with_reducible refine (laws_loInts.calls k _ _ G _ _ ab false _ ?z_1 ?z_2 ?z_3 ?z_4 a3.out).mono ?_); (case z_1 => exact (Kd.R_reads' (onR P)).2.2); (case z_2 => exact (Kd.R_reads' P.out).2.1); (case z_3 => repeat (first | exact (Kd.V_reads' L.out).2.2 | (with_reducible refine Kd.C_alloc ?_ _) | (with_reducible refine Kd.C_drewN ?_ _) | (with_reducible refine Kd.C_drew ?_))); (case z_4 => exact (Kd.V_reads' L.out).2.1); rintro e w' ⟨rfl, ⟨nd, rfl⟩⟩))
     go_meet
     case rel => exact ⟨_, (true), rs_, H', ⟨by first | omega | exact Nat.le_refl _⟩, ⟨Kd.V_mono (onV L) (fun _ hk => ⟨hk.1.2, ⟨hk.1.1.1, hk.1.1.2⟩⟩)⟩, ⟨Kd.R_mono (onR P) (fun _ hk => trivial)⟩, ⟨onR y⟩, ⟨bkn a⟩, ⟨bn HB⟩⟩
  case rest =>
   clear aM; (try clear c2 al an z T ap aq ad az ay); obtain ⟨kq, aA, rfl, HA, ae, ar, i, l, a, HB⟩ := hcut; cases kq with
   | zero => exact absurd HA.out (by simp [laws_FnTwoFirst.j0])
   | succ kj5 =>
    have H := HA.out; clear HA; simp only [laws_FnTwoFirst.j0] at H; by_cases au : aA = true
    ·subst au; rw [if_pos rfl] at H; by_cases B : (s == t) = true
     ·rw [if_pos B] at H; have aB : (s == t) = true := B; (try (have aC : decide (s = t) = true := by simpa using B)); (try (have aD : (s == t) = true := by simpa using B)); clear B; obtain ⟨bB, bC, H⟩ := bi_ H; obtain rfl := Option.some.inj H; obtain ⟨ct, cu, bD⟩ := Kd.R_slice i.out; subst bD; obtain ⟨cv, cw, bE⟩ := Kd.V_slice ar.out; subst bE
      go_wp2_with (first | (go_at_call 49; (with_reducible refine (laws_loInts.calls kj5 _ _ G _ _ ab bB _ ?z_1 ?z_2 ?z_3 ?z_4 bC.out).mono ?_); (case z_1 => exact (Kd.R_reads' (onR i)).2.2); (case z_2 => exact (Kd.R_reads' i.out).2.1); (case z_3 => repeat (first | exact (Kd.V_reads' ar.out).2.2 | (with_reducible refine Kd.C_alloc ?_ _) | (with_reducible refine Kd.C_drewN ?_ _) | (with_reducible refine Kd.C_drew ?_))); (case z_4 => exact (Kd.V_reads' ar.out).2.1); rintro e w' ⟨rfl, ⟨nd, rfl⟩⟩))
      go_ret
      exact ⟨er_, bn HB⟩
     ·rw [if_neg B] at H; have aB : (s == t) = false := by simpa using B
      (try (have aC : decide (s = t) = false := by simpa using B)); (try (have aD : (s == t) = false := by simpa using B)); (try (have cx : ¬ (s = t) := by simpa using B)); clear B; exact absurd (Option.some.inj H) (by rw [hrt.out]; decide)
    ·obtain rfl := nt_ au; rw [if_neg nf_] at H; obtain ⟨m, bF, H⟩ := bi_ H; have H' := am H; clear H; have aN := c2 a
     go_wp2_with (first | ((with_reducible refine gate_callee (f := 75) rfl ?_); refine gl_ (some 64) Try.func75 #[.agg #[.int .i64 q, .slice x b.length u], .int .i64 D, .int .i64 E] ?_; (with_reducible refine (impl_WayAll.calls kj5 q _ _ b D E m _ ?z_1 ?z_2 bF.out).mono ?_); (case z_1 => exact (Kd.R_reads' (onR l)).2.2); (case z_2 => exact (Kd.R_reads' l.out).2.1); rintro e w28 ⟨aO, rfl, A, hb⟩; refine ⟨_, rfl, ?_⟩; replace ar := am (Kd.V_elder' (onV ar) (Kd.S_base A) hb); replace l := am (Kd.R_below (onR l) hb); have bG := am (Kd.S_lower (Kd.S_new' A (Kd.R_lt (onR i))) (below_size (bn HB))); replace i := am (Kd.R_below (onR i) hb); replace a := bb a hb; replace HB := bs HB hb; (try clear hb A)))
     go_loopg [13] kj5 (fun kq bH w' => ∃ (p : Int), bH = .int .i64 p ∧ Aside0 (laws_FnTwoFirst.l0 kq D E G m p q b = some r) ∧ Aside0 (kq ≤ kj5) ∧ Aside0 (Kd.R (Kd.int .i64) 3 w' w.heap.size (fun _ => True) X G) ∧ Aside0 (Kd.S (Kd.slice 3 (Kd.int .i64)) 57 w' w.heap.size (fun k_ => some k_ ≠ (X : Value).ownBlock) aO m) ∧ Aside0 (Kd.R k33 33 w' w.heap.size (fun _ => True) (.slice x b.length u) b) ∧ Bk w' O (.cells #[.int .i64 q, (.slice x b.length u)] 31 (0, 0)) ∧ Aside0 (Below w.heap.size w w'))
     case atStart => exact ⟨(0), rs_, H', ⟨Nat.le_refl _⟩, ⟨onR i⟩, ⟨Kd.S_mono (onS bG) (fun _ hk => hk.2)⟩, ⟨onR l⟩, ⟨bkn a⟩, ⟨bn HB⟩⟩
     case round =>
      clear H'; (try clear c2 al an z T ap aq ad au B aB aC aD az aN ay); obtain ⟨p, rfl, HA, af, i, d, l, a, HB⟩ := hrel; cases gk with
      | zero => exact absurd HA.out (by simp [laws_FnTwoFirst.l0])
      | succ k2 =>
       have H := HA.out; clear HA; simp only [laws_FnTwoFirst.l0] at H; have aP := am H; clear H
       go_upto_region 10 with (fail)
       go_cut [77] (fun bI wc => ∃ (kq : Nat) (aE : Bool), bI = .bool aE ∧ Aside0 (laws_FnTwoFirst.j2 kq D E G m p aE q b = some r) ∧ Aside0 (kq ≤ k2) ∧ Aside0 (Kd.R (Kd.int .i64) 3 wc w.heap.size (fun _ => True) X G) ∧ Aside0 (Kd.S (Kd.slice 3 (Kd.int .i64)) 57 wc w.heap.size (fun k_ => some k_ ≠ (X : Value).ownBlock) aO m) ∧ Aside0 (Kd.R k33 33 wc w.heap.size (fun _ => True) (.slice x b.length u) b) ∧ Bk wc O (.cells #[.int .i64 q, (.slice x b.length u)] 31 (0, 0)) ∧ Aside0 (Below w.heap.size w wc))
       case first =>
        have H := aP.out; clear aP; by_cases Y : p < (m.length : Int)
        ·rw [if_pos Y] at H; have aa := decide_eq_true Y; clear Y; (first | rw [aa] | (simp only [i64_w, i32_w]; rw [aa]) | skip); obtain ⟨a4, H⟩ := id_ H; obtain ⟨a5, bJ, H⟩ := bi_ H; have H' := am H; clear H; obtain ⟨cy, cz, bK⟩ := Kd.S_slice d.out; subst bK; have ag : 0 ≤ (p : Int) := oa; have ah : p < (m.length : Int) := oa; obtain ⟨cA, cB, cC, bL, aQ, a6, a7⟩ := at_L6 (Kd.S_reads' d.out).2.2 p ag ah; cases bL; obtain ⟨cD, bM, bN, a8⟩ := Kd.S_get d.out [] p ag (by first | exact ah | exact oa | (have e_ := (Kd.S_reads' d.out).1; omega)); obtain ⟨cE, rfl, aR⟩ := bN; have av := a8 0 _ rfl; rw [Nat.add_zero, show ((Kd.slice 3 (Kd.int .i64))).sz = 1 from rfl, Nat.mul_one] at av; replace av := Option.some.inj (av.symm.trans aQ); rw [av] at aR; have cF := am (show Kd.R (Kd.int .i64) 3 _ _ _ _ (rd_L6 m p) from aR); clear av aR a8 bM; have a9 := am a7; have bO := am a6; clear a7 a6; obtain ⟨ag, ah⟩ := e2_ ag ah; obtain ⟨cG, cH, bP⟩ := Kd.R_slice i.out; subst bP
         go_wp2_with (first | (go_at_call 49; (with_reducible refine (laws_loInts.calls k2 _ _ (rd_L6 m p) _ _ G a5 _ ?z_1 ?z_2 ?z_3 ?z_4 bJ.out).mono ?_); (case z_1 => repeat (first | exact (by repeat (first | (with_reducible exact a9.out) | (with_reducible refine Kd.C_alloc ?_ _) | (with_reducible refine Kd.C_drewN ?_ _) | (with_reducible refine Kd.C_drew ?_) | exact a9.out)) | (with_reducible refine Kd.C_alloc ?_ _) | (with_reducible refine Kd.C_drewN ?_ _) | (with_reducible refine Kd.C_drew ?_))); (case z_2 => exact bO.out); (case z_3 => exact (Kd.R_reads' (onR i)).2.2); (case z_4 => exact (Kd.R_reads' i.out).2.1); rintro e w' ⟨rfl, ⟨nd, rfl⟩⟩))
         go_meet
         case rel => exact ⟨_, (!a5), rs_, H', ⟨by have := ae.out; have := af.out; first | omega | exact Nat.le_refl _⟩, ⟨onR i⟩, ⟨onS d⟩, ⟨onR l⟩, ⟨bkn a⟩, ⟨bn HB⟩⟩
        ·rw [if_neg Y] at H; have aa := decide_eq_false Y; clear Y; (first | rw [aa] | (simp only [i64_w, i32_w]; rw [aa]) | skip); have H' := am H; clear H; obtain ⟨cI, cJ, bQ⟩ := Kd.S_slice d.out; subst bQ; go_wp2
         go_meet
         case rel => exact ⟨_, (false), rs_, H', ⟨by have := ae.out; have := af.out; first | omega | exact Nat.le_refl _⟩, ⟨onR i⟩, ⟨onS d⟩, ⟨onR l⟩, ⟨bkn a⟩, ⟨bn HB⟩⟩
       case rest =>
        clear aP; (try clear c2 al an z T ap aq ad au B aB aC aD Y aa a4 az aN ay aQ ag ah); obtain ⟨kq, aE, rfl, HA, aF, i, d, l, a, HB⟩ := hcut; cases kq with
        | zero => exact absurd HA.out (by simp [laws_FnTwoFirst.j2])
        | succ kj28 =>
         have H := HA.out; clear HA; simp only [laws_FnTwoFirst.j2] at H; by_cases aS : aE = true
         ·subst aS; rw [if_pos rfl] at H; have H' := am H; clear H; go_wp2
          go_loopg [14] kj28 (fun kq bR w' => ∃ (J : Int), bR = .int .i64 J ∧ Aside0 (laws_FnTwoFirst.l1 kq D E G m p J q b = some r) ∧ Aside0 (kq ≤ kj28) ∧ Aside0 (Kd.R (Kd.int .i64) 3 w' w.heap.size (fun _ => True) X G) ∧ Aside0 (Kd.S (Kd.slice 3 (Kd.int .i64)) 57 w' w.heap.size (fun k_ => some k_ ≠ (X : Value).ownBlock) aO m) ∧ Aside0 (Kd.R k33 33 w' w.heap.size (fun _ => True) (.slice x b.length u) b) ∧ Bk w' O (.cells #[.int .i64 q, (.slice x b.length u)] 31 (0, 0)) ∧ Aside0 (Below w.heap.size w w'))
          case atStart => exact ⟨(0), rs_, H', ⟨Nat.le_refl _⟩, ⟨onR i⟩, ⟨onS d⟩, ⟨onR l⟩, ⟨bkn a⟩, ⟨bn HB⟩⟩
          case round =>
           clear H'; (try clear c2 al an z T ap aq ad au B aB aC aD Y aa a4 aS az aN ay aQ ag ah); obtain ⟨J, rfl, HA, aG, i, d, l, a, HB⟩ := hrel; cases gk with
           | zero => exact absurd HA.out (by simp [laws_FnTwoFirst.l1])
           | succ k4 =>
            have H := HA.out; clear HA; simp only [laws_FnTwoFirst.l1] at H; by_cases ai : J < (m.length : Int)
            ·rw [if_pos ai] at H; have bS := decide_eq_true ai; clear ai; obtain ⟨cK, H⟩ := id_ H; obtain ⟨cL, H⟩ := id_ H; obtain ⟨cM, H⟩ := id_ H; obtain ⟨bT, bU, H⟩ := bi_ H; by_cases ba : bT = true
             ·subst ba; rw [if_pos rfl] at H; exact absurd (Option.some.inj H) (by rw [hrt.out]; decide)
             ·obtain rfl := nt_ ba; rw [if_neg nf_] at H; have H' := am H; clear H; obtain ⟨cN, cO, bV⟩ := Kd.S_slice d.out; subst bV; try go_wp2
              replace i := dR i; replace d := dS d; replace l := dR l; replace a := dB a; replace HB := dL HB; have aH : 0 ≤ (p : Int) := oa; have aI : p < (m.length : Int) := oa; obtain ⟨bW, bX, bY, bZ, aT, bd, bf⟩ := at_L6 (Kd.S_reads' d.out).2.2 p aH aI; cases bZ; obtain ⟨cP, b0, b1, bg⟩ := Kd.S_get d.out [] p aH (by first | exact aI | exact oa | (have e_ := (Kd.S_reads' d.out).1; omega)); obtain ⟨cQ, rfl, aU⟩ := b1; have aw := bg 0 _ rfl; rw [Nat.add_zero, show ((Kd.slice 3 (Kd.int .i64))).sz = 1 from rfl, Nat.mul_one] at aw; replace aw := Option.some.inj (aw.symm.trans aT); rw [aw] at aU; have aV := am (show Kd.R (Kd.int .i64) 3 _ _ _ _ (rd_L6 m p) from aU); clear aw aU bg b0; have aj := am bf; have b2 := am bd; clear bf bd; obtain ⟨aH, aI⟩ := e2_ aH aI; have aJ : 0 ≤ (J : Int) := oa; have aK : J < (m.length : Int) := oa; obtain ⟨b3, b4, b5, b6, aW, bh, bi⟩ := at_L6 (Kd.S_reads' d.out).2.2 J aJ aK; obtain rfl : bW = b3 := (by injection b6); obtain ⟨cR, b7, b8, bj⟩ := Kd.S_get d.out [] J aJ (by first | exact aK | exact oa | (have e_ := (Kd.S_reads' d.out).1; omega)); obtain ⟨cS, rfl, aX⟩ := b8; have ax := bj 0 _ rfl; rw [Nat.add_zero, show ((Kd.slice 3 (Kd.int .i64))).sz = 1 from rfl, Nat.mul_one] at ax; replace ax := Option.some.inj (ax.symm.trans aW); rw [ax] at aX; have aY := am (show Kd.R (Kd.int .i64) 3 _ _ _ _ (rd_L6 m J) from aX); clear ax aX bj b7; have ak := am bi; have b9 := am bh; clear bi bh; obtain ⟨aJ, aK⟩ := e2_ aJ aK; refine s4_ 12 [] (bq a 0) (bq a 1) aT aW (fun U => ?_); refine with_tabW laws_FnTwoFirst.tab15 laws_FnTwoFirst.bits15 (fun I aZ => ?_); generalize wr.drew = w44 at i d l a HB aV aY aj ak aT aW U ⊢; refine pz_ 1 I ?_; refine pz_ 2 I ?_; refine pz_ 3 I ?_; refine pz_ 4 I ?_; refine pz_ 5 I ?_; refine pz_ 7 I ?_; refine pz_ 8 I ?_; refine pz_ 9 I ?_; refine tz_ 0 I aZ U ?_; refine tz_ 6 I aZ U ?_; refine tz_ 10 I aZ U ?_; refine on_ 11 I (fun K hK => ?_); refine gg_ Try.func61 #[.agg #[.int .i64 q, .slice x b.length u], .int .i64 D, .int .i64 E, .slice bX (rd_L6 m p).length bY, .slice b4 (rd_L6 m J).length b5] ?_
              with_reducible refine (impl_TwoOk.calls k4 q _ _ b D E _ _ (rd_L6 m p) _ _ (rd_L6 m J) false _ ?z_1 ?z_2 ?z_3 ?z_4 ?z_5 ?z_6 bU.out).mono ?_
              (case z_1 => exact (Kd.R_reads' (onR l)).2.2); (case z_2 => exact (Kd.R_reads' l.out).2.1); (case z_3 => repeat (first | exact (by repeat (first | (with_reducible exact aj.out) | (with_reducible refine Kd.C_alloc ?_ _) | (with_reducible refine Kd.C_drewN ?_ _) | (with_reducible refine Kd.C_drew ?_) | exact aj.out)) | (with_reducible refine Kd.C_alloc ?_ _) | (with_reducible refine Kd.C_drewN ?_ _) | (with_reducible refine Kd.C_drew ?_))); (case z_4 => exact b2.out); (case z_5 => repeat (first | exact (by repeat (first | (with_reducible exact ak.out) | (with_reducible refine Kd.C_alloc ?_ _) | (with_reducible refine Kd.C_drewN ?_ _) | (with_reducible refine Kd.C_drew ?_) | exact ak.out)) | (with_reducible refine Kd.C_alloc ?_ _) | (with_reducible refine Kd.C_drewN ?_ _) | (with_reducible refine Kd.C_drew ?_))); (case z_6 => exact b9.out); rintro e w45 ⟨rfl, hb⟩; have ca := (hb.cell (World.block_lt_of_cell? _ _ (U.2.2.1))).trans (U.2.2.1); have cc := (hb.cell (World.block_lt_of_cell? _ _ (U.2.2.2))).trans (U.2.2.2); refine ⟨_, rfl, ?_⟩; replace i := am (Kd.R_below (onR i) hb); replace d := am (Kd.S_below (onS d) hb); replace l := am (Kd.R_below (onR l) hb); replace aV := am (Kd.R_below (onR aV) hb); replace aY := am (Kd.R_below (onR aY) hb); replace a := bb a hb; replace aj := am (Kd.C_below (by repeat (first | (with_reducible exact aj.out) | (with_reducible refine Kd.C_alloc ?_ _) | (with_reducible refine Kd.C_drewN ?_ _) | (with_reducible refine Kd.C_drew ?_) | exact aj.out)) hb); replace ak := am (Kd.C_below (by repeat (first | (with_reducible exact ak.out) | (with_reducible refine Kd.C_alloc ?_ _) | (with_reducible refine Kd.C_drewN ?_ _) | (with_reducible refine Kd.C_drew ?_) | exact ak.out)) hb); replace HB := bs HB hb; (try clear hb hk); refine hK.out _ _ ⟨(bc a 0), (bc a 1), ca, cc⟩ (fun U => ?_); clear hK K; refine nz_ 97 ?_; refine done_ (done_of I.out (by kernel_rfl)) ?_; try go_wp2
              go_roundg k4
              case measure => have := ae.out; have := af.out; have := aF.out; have := aG.out; omega
              case rel => exact ⟨(wrap64 (J + 1)), rs_, H', ⟨by have := ae.out; have := af.out; have := aF.out; have := aG.out; omega⟩, ⟨onR i⟩, ⟨onS d⟩, ⟨onR l⟩, ⟨bkn a⟩, ⟨bn HB⟩⟩
            ·rw [if_neg ai] at H; have bS := decide_eq_false ai; clear ai; have H' := am H; clear H; obtain ⟨cT, cU, cd⟩ := Kd.S_slice d.out; subst cd; go_wp2
             go_roundg k4
             case measure => have := ae.out; have := af.out; have := aF.out; have := aG.out; omega
             case rel => exact ⟨(wrap64 (p + 1)), rs_, H', ⟨by have := ae.out; have := af.out; have := aF.out; have := aG.out; omega⟩, ⟨onR i⟩, ⟨onS d⟩, ⟨onR l⟩, ⟨bkn a⟩, ⟨bn HB⟩⟩
         ·obtain rfl := nt_ aS; rw [if_neg nf_] at H; obtain rfl := Option.some.inj H; go_wp2
          go_ret
          exact ⟨er_, bn HB⟩

/-- what is to be proved of laws_FnTwoFirst, without Go -/
def laws_FnTwoFirst.Pure : Prop := ∀ (l0 : List Int), (l0.length ≤ maxLen ∧ ∀ l0_ ∈ l0, ((Lit.int .u8 l0_).wf = true)) → ∃ k, laws_FnTwoFirst.f k l0 = some true

end Go.Proofs.Ythmddmobfkfgeaa.F
