-- By oprint.py.
import Derived.Test.YtlddkafpbhjpdaaF0
import Derived.Test.YtlddkafpbhjpdaaF16
import Derived.Test.YtlddkafpbhjpdaaF18
import Derived.Test.YtlddkafpbhjpdaaF19
import Derived.Test.YtlddkafpbhjpdaaF20
namespace Go.Proofs.Ytlddkafpbhjpdaa.F
open Go.RowKit Go.Proofs.YtlddkafpbhjpdaaW.PrintWords Go.Proofs.YtlddkafpbhjpdaaW.PrintLast Go.Proofs.YtlddkafpbhjpdaaW.PrintMore
attribute [local go_sem] max2_int min2_int max_two min_two max_three min_three max_four min_four
set_option linter.unusedVariables false
set_option linter.unusedSimpArgs false

/-! ### laws_FnTwoCut: function 4 -/
mutual
def laws_FnTwoCut.j0 : Nat → Int → Int → Int → Bool → Int → Bool → Bool → Int → List (S44) → Option (Bool)
 | 0, _, _, _, _, _, _, _, _, _ => none
 | k + 1, x4, x5, x6, x7, x8, x9, x49, x608000, x608001 => if x49 = true then (if (x9 == x7) = true then (if x8 = x6 then (if x9 = true then (some true) else (some (x8 == 0))) else (some false)) else (some false)) else ((impl_WayAll.f k x608000 x608001 x4 x5).bind fun t612 => (laws_FnTwoCut.l0 k x4 x5 x8 t612 0 x608000 x608001))
def laws_FnTwoCut.l0 : Nat → Int → Int → Int → List (List Int) → Int → Int → List (S44) → Option (Bool)
 | 0, _, _, _, _, _, _, _ => none
 | k + 1, x4, x5, x8, x10, x11, x608000, x608001 => if x11 < (x10.length : Int) then (if 0 ≤ x11 then ((laws_loIn.f k (rd_L6 x10 x11) x8).bind fun t616 => (if t616 = true then (laws_FnTwoCut.l0 k x4 x5 x8 x10 (wrap64 (x11 + 1)) x608000 x608001) else (some false))) else (none)) else (laws_FnTwoCut.l1 k x4 x5 x8 x10 0 x608000 x608001)
def laws_FnTwoCut.l1 : Nat → Int → Int → Int → List (List Int) → Int → Int → List (S44) → Option (Bool)
 | 0, _, _, _, _, _, _, _ => none
 | k + 1, x4, x5, x8, x10, x12, x608000, x608001 => if x12 < x8 then (if x12 = x4 then (laws_FnTwoCut.j3 k x4 x5 x8 x10 x12 false x608000 x608001) else (laws_FnTwoCut.j3 k x4 x5 x8 x10 x12 (x12 != x5) x608000 x608001)) else (if (x10.length : Int) > 0 then ((impl_BlockCuts.f k x608000 x608001).bind fun t617 => ((laws_loIn.f k t617 x8).bind fun t620 => (some t620))) else (some false))
def laws_FnTwoCut.j3 : Nat → Int → Int → Int → List (List Int) → Int → Bool → Int → List (S44) → Option (Bool)
 | 0, _, _, _, _, _, _, _, _ => none
 | k + 1, x4, x5, x8, x10, x12, x13, x608000, x608001 => laws_FnTwoCut.l2 k x4 x5 x8 x10 x12 x13 0 x608000 x608001
def laws_FnTwoCut.l2 : Nat → Int → Int → Int → List (List Int) → Int → Bool → Int → Int → List (S44) → Option (Bool)
 | 0, _, _, _, _, _, _, _, _, _ => none
 | k + 1, x4, x5, x8, x10, x12, x13, x14, x608000, x608001 => if x14 < (x10.length : Int) then (if x13 = true then (if 0 ≤ x14 then ((laws_loIn.f k (rd_L6 x10 x14) x12).bind fun t622 => (laws_FnTwoCut.l2 k x4 x5 x8 x10 x12 t622 (wrap64 (x14 + 1)) x608000 x608001)) else (none)) else (laws_FnTwoCut.l2 k x4 x5 x8 x10 x12 false (wrap64 (x14 + 1)) x608000 x608001)) else (if x13 = true then (some false) else (laws_FnTwoCut.l1 k x4 x5 x8 x10 (wrap64 (x12 + 1)) x608000 x608001))
end
def laws_FnTwoCut.f (k : Nat) (l0 : List Int) : Option (Bool) := if (l0.length : Int) > 1048576 then (some true) else ((spec_DrawTwoCut.f k l0).bind fun bt601 => ((spec_TwoCut.f k bt601.1 bt601.2.1 bt601.2.2.1 bt601.2.2.2).bind fun bt608 => ((impl_TwoCut.f k bt601.1 bt601.2.1 bt601.2.2.1 bt601.2.2.2).bind fun bt610 => (if (bt610.2 != bt608.2) = true then (laws_FnTwoCut.j0 k bt601.2.2.1 bt601.2.2.2 bt608.1 bt608.2 bt610.1 bt610.2 true bt601.1 bt601.2.1) else (if bt610.1 = bt608.1 then (laws_FnTwoCut.j0 k bt601.2.2.1 bt601.2.2.2 bt608.1 bt608.2 bt610.1 bt610.2 (!bt610.2) bt601.1 bt601.2.1) else (laws_FnTwoCut.j0 k bt601.2.2.1 bt601.2.2.2 bt608.1 bt608.2 bt610.1 bt610.2 true bt601.1 bt601.2.1))))))
theorem laws_FnTwoCut.mono_l : ∀ k, (∀ a b c d e f g i j, LeO (laws_FnTwoCut.j0 k a b c d e f g i j) (laws_FnTwoCut.j0 (k + 1) a b c d e f g i j)) ∧ (∀ a b c d e f g, LeO (laws_FnTwoCut.l0 k a b c d e f g) (laws_FnTwoCut.l0 (k + 1) a b c d e f g)) ∧ (∀ a b c d e f g, LeO (laws_FnTwoCut.l1 k a b c d e f g) (laws_FnTwoCut.l1 (k + 1) a b c d e f g)) ∧ (∀ a b c d e f g i, LeO (laws_FnTwoCut.j3 k a b c d e f g i) (laws_FnTwoCut.j3 (k + 1) a b c d e f g i)) ∧ (∀ a b c d e f g i j, LeO (laws_FnTwoCut.l2 k a b c d e f g i j) (laws_FnTwoCut.l2 (k + 1) a b c d e f g i j))
 | 0 => ⟨fun _ _ _ _ _ _ _ _ _ r h => by simp [laws_FnTwoCut.j0] at h, fun _ _ _ _ _ _ _ r h => by simp [laws_FnTwoCut.l0] at h, fun _ _ _ _ _ _ _ r h => by simp [laws_FnTwoCut.l1] at h, fun _ _ _ _ _ _ _ _ r h => by simp [laws_FnTwoCut.j3] at h, fun _ _ _ _ _ _ _ _ _ r h => by simp [laws_FnTwoCut.l2] at h⟩
 | k + 1 => by
  obtain ⟨ih0, ih1, ih2, ih3, ih4⟩ := laws_FnTwoCut.mono_l k; refine ⟨?_, ?_, ?_, ?_, ?_⟩
  ·intro a b c d e f g i j; unfold laws_FnTwoCut.j0; have l := @impl_BlockCuts.mono; have m := @impl_TwoCut.mono; have n := @impl_WayAll.mono; have o := @laws_loIn.mono; have p := @spec_DrawTwoCut.mono; have q := @spec_TwoCut.mono; exact mo_
  ·intro a b c d e f g; unfold laws_FnTwoCut.l0; have l := @impl_BlockCuts.mono; have m := @impl_TwoCut.mono; have n := @impl_WayAll.mono; have o := @laws_loIn.mono; have p := @spec_DrawTwoCut.mono; have q := @spec_TwoCut.mono; exact mo_
  ·intro a b c d e f g; unfold laws_FnTwoCut.l1; have l := @impl_BlockCuts.mono; have m := @impl_TwoCut.mono; have n := @impl_WayAll.mono; have o := @laws_loIn.mono; have p := @spec_DrawTwoCut.mono; have q := @spec_TwoCut.mono; exact mo_
  ·intro a b c d e f g i; unfold laws_FnTwoCut.j3; have l := @impl_BlockCuts.mono; have m := @impl_TwoCut.mono; have n := @impl_WayAll.mono; have o := @laws_loIn.mono; have p := @spec_DrawTwoCut.mono; have q := @spec_TwoCut.mono; exact mo_
  ·intro a b c d e f g i j; unfold laws_FnTwoCut.l2; have l := @impl_BlockCuts.mono; have m := @impl_TwoCut.mono; have n := @impl_WayAll.mono; have o := @laws_loIn.mono; have p := @spec_DrawTwoCut.mono; have q := @spec_TwoCut.mono; exact mo_
theorem laws_FnTwoCut.mono : ∀ a k, LeO (laws_FnTwoCut.f k a) (laws_FnTwoCut.f (k + 1) a) := by
 intro a k; obtain ⟨ih0, ih1, ih2, ih3, ih4⟩ := laws_FnTwoCut.mono_l k; unfold laws_FnTwoCut.f; have m0_ := @impl_BlockCuts.mono; have m1_ := @impl_TwoCut.mono; have m2_ := @impl_WayAll.mono; have m3_ := @laws_loIn.mono; have m4_ := @spec_DrawTwoCut.mono; have m5_ := @spec_TwoCut.mono; exact mo_
set_option maxHeartbeats 8000000 in
set_option maxRecDepth 100000 in
theorem laws_FnTwoCut.calls (k : Nat) (A0 : Option Addr) (c0 : Nat) (l0 : List Int) (r : Bool) (w : World) (aW : Kd.C (Kd.int .u8) w A0 l0.length l0) (aX : l0.length ≤ c0) (hrt : Aside0 (r = true)) (h : laws_FnTwoCut.f k l0 = some r) :
  Calls Try.prog 4 #[.slice A0 l0.length c0] w fun e w' => e = .returned (.bool r) ∧ Below w.heap.size w w' := by
 have bQ := Try.underlying25; have ba := am aW; have bd := am aX; clear aW aX; have HB := am (Below.refl w.heap.size w)
 have H : (if (l0.length : Int) > 1048576 then (some true) else ((spec_DrawTwoCut.f k l0).bind fun j => ((spec_TwoCut.f k j.1 j.2.1 j.2.2.1 j.2.2.2).bind fun U => ((impl_TwoCut.f k j.1 j.2.1 j.2.2.1 j.2.2.2).bind fun M => (if (M.2 != U.2) = true then (laws_FnTwoCut.j0 k j.2.2.1 j.2.2.2 U.1 U.2 M.1 M.2 true j.1 j.2.1) else (if M.1 = U.1 then (laws_FnTwoCut.j0 k j.2.2.1 j.2.2.2 U.1 U.2 M.1 M.2 (!M.2) j.1 j.2.1) else (laws_FnTwoCut.j0 k j.2.2.1 j.2.2.2 U.1 U.2 M.1 M.2 true j.1 j.2.1))))))) = some r := h
 clear h; by_cases c2 : (l0.length : Int) > 1048576
 ·rw [if_pos c2] at H; have ab := decide_eq_true c2; have ad : decide (1048576 < l0.length) = true := decide_eq_true (by omega); clear c2; obtain rfl := Option.some.inj H; go_enter Try.func4, Try.ntmps4; go_wp2
  go_ret
  exact ⟨er_, bn HB⟩
 ·rw [if_neg c2] at H; have ab := decide_eq_false c2; have ad : decide (1048576 < l0.length) = false := decide_eq_false (by omega); clear c2; obtain ⟨⟨o, a, q, z⟩, A3, H⟩ := bi_ H; (try dsimp only at H); obtain ⟨⟨B, p⟩, A4, H⟩ := bi_ H; (try dsimp only at H); obtain ⟨⟨l, m⟩, A5, H⟩ := bi_ H; (try dsimp only at H); have aL := am H; clear H; go_enter Try.func4, Try.ntmps4
  go_upto_region 6 with (first | ((with_reducible refine gate_callee (f := 14) rfl ?_); refine gl_ (some 20) Try.func14 #[.slice A0 l0.length c0] ?_; (with_reducible refine (spec_DrawTwoCut.calls k _ _ l0 o a q z _ ?z_1 ?z_2 A3.out).mono ?_); (case z_1 => repeat (first | exact ba.out | (with_reducible refine Kd.C_alloc ?_ _) | (with_reducible refine Kd.C_drewN ?_ _) | (with_reducible refine Kd.C_drew ?_))); (case z_2 => exact bd.out); rintro e w7 ⟨bR, rfl, O, hb⟩; refine ⟨_, rfl, ?_⟩; have u := am (Kd.R_lower O (below_size (bn HB))); replace HB := bs HB hb; (try clear hb O)) | ((with_reducible refine gate_dst (N := 3) rfl ?_); refine bx_ 3 #[.int .i64 0, .slice none 0 0] 25 HB ?_; clear HB; intro aq hg w8 hb b bS HB; replace u := am (Kd.R_below (onR u) hb); clear hb hg; have ar := c2 b; obtain ⟨A, x, bf⟩ := Kd.R_slice u.out; subst bf) | ((with_reducible refine gate_callee (f := 15) rfl ?_); refine gl_ (some 28) Try.func15 #[.agg #[.int .i64 o, .slice A a.length x], .int .i64 q, .int .i64 z] ?_; (with_reducible refine (spec_TwoCut.calls k o _ _ a q z B p _ ?z_1 ?z_2 A4.out).mono ?_); (case z_1 => refine (Kd.R_reads' (e := 44) (base := w.heap.size) (ok := fun k_ => True) (n := a.length) (c := x) ?_).2.2; exact (onR u)); (case z_2 => exact (Kd.R_reads' u.out).2.1); rintro e w11 ⟨rfl, hb⟩; refine ⟨_, rfl, ?_⟩; replace u := am (Kd.R_below (onR u) hb); replace b := bb b hb; replace HB := bs HB hb; (try clear hb); have au := c2 b) | ((with_reducible refine gate_callee (f := 16) rfl ?_); refine gl_ (some 35) Try.func16 #[.agg #[.int .i64 o, .slice A a.length x], .int .i64 q, .int .i64 z] ?_; (with_reducible refine (impl_TwoCut.calls k o _ _ a q z l m _ ?z_1 ?z_2 A5.out).mono ?_); (case z_1 => exact (Kd.R_reads' (onR u)).2.2); (case z_2 => exact (Kd.R_reads' u.out).2.1); rintro e w13 ⟨rfl, hb⟩; refine ⟨_, rfl, ?_⟩; replace u := am (Kd.R_below (onR u) hb); replace b := bb b hb; replace HB := bs HB hb; (try clear hb)))
  (try simp only [Act.put, List.setIfInBounds_toArray, List.set_cons_zero, List.set_cons_succ])
  go_cut [49] (fun bg wc => ∃ (kq : Nat) (aE : Bool), bg = .bool aE ∧ Aside0 (laws_FnTwoCut.j0 kq q z B p l m aE o a = some r) ∧ Aside0 (kq ≤ k) ∧ Aside0 (Kd.R k44 44 wc w.heap.size (fun _ => True) (.slice A a.length x) a) ∧ Bk wc aq (.cells #[.int .i64 o, (.slice A a.length x)] 25 (0, 0)) ∧ Aside0 (Below w.heap.size w wc))
  case first =>
   have H := aL.out; clear aL; by_cases s : (m != p) = true
   ·rw [if_pos s] at H; have J : (m != p) = true := s; (try (have ae : decide (m = p) = false := by simpa using s)); (try (have af : (m == p) = false := by simpa using s)); (try (have bT : ¬ (m = p) := by simpa using s)); clear s; (first | rw [J] | (simp only [i64_w, i32_w]; rw [J]) | skip); have H' := am H; clear H; go_wp2
    go_meet
    case rel => exact ⟨_, (true), rs_, H', ⟨by first | omega | exact Nat.le_refl _⟩, ⟨onR u⟩, ⟨bkn b⟩, ⟨bn HB⟩⟩
   ·rw [if_neg s] at H; have J : (m != p) = false := by simpa using s
    (try (have ae : decide (m = p) = true := by simpa using s)); (try (have af : (m == p) = true := by simpa using s)); clear s; (first | rw [J] | (simp only [i64_w, i32_w]; rw [J]) | skip); by_cases D : l = B
    ·rw [if_pos D] at H; have ag : (l == B) = true := beq_iff_eq.mpr D; have ah : (l != B) = false := bne_eq_false_iff_eq.mpr D; clear D; have H' := am H; clear H; go_wp2
     go_meet
     case rel => exact ⟨_, (!m), rs_, H', ⟨by first | omega | exact Nat.le_refl _⟩, ⟨onR u⟩, ⟨bkn b⟩, ⟨bn HB⟩⟩
    ·rw [if_neg D] at H; have ag : (l == B) = false := beq_eq_false_iff_ne.mpr D; have ah : (l != B) = true := bne_iff_ne.mpr D; have H' := am H; clear H; go_wp2
     go_meet
     case rel => exact ⟨_, (true), rs_, H', ⟨by first | omega | exact Nat.le_refl _⟩, ⟨onR u⟩, ⟨bkn b⟩, ⟨bn HB⟩⟩
  case rest =>
   clear aL; (try clear c2 ab ad s J ae af D ag ah au ar); obtain ⟨kq, aE, rfl, HA, K, g, b, HB⟩ := hcut; cases kq with
   | zero => exact absurd HA.out (by simp [laws_FnTwoCut.j0])
   | succ kj5 =>
    have H := HA.out; clear HA; simp only [laws_FnTwoCut.j0] at H; by_cases ai : aE = true
    ·subst ai; rw [if_pos rfl] at H; by_cases t : (m == p) = true
     ·rw [if_pos t] at H; have av : (m == p) = true := t; (try (have aw : decide (m = p) = true := by simpa using t)); (try (have ax : (m == p) = true := by simpa using t)); clear t; by_cases I : l = B
      ·rw [if_pos I] at H; have ay : (l == B) = true := beq_iff_eq.mpr I; have az : (l != B) = false := bne_eq_false_iff_eq.mpr I; clear I; by_cases aj : m = true
       ·subst aj; rw [if_pos rfl] at H; obtain rfl := Option.some.inj H; go_wp2
        go_ret
        exact ⟨er_, bn HB⟩
       ·obtain rfl := nt_ aj; rw [if_neg nf_] at H; obtain rfl := Option.some.inj H; go_wp2
        go_ret
        exact ⟨er_, bn HB⟩
      ·rw [if_neg I] at H; have ay : (l == B) = false := beq_eq_false_iff_ne.mpr I; have az : (l != B) = true := bne_iff_ne.mpr I; exact absurd (Option.some.inj H) (by rw [hrt.out]; decide)
     ·rw [if_neg t] at H; have av : (m == p) = false := by simpa using t
      (try (have aw : decide (m = p) = false := by simpa using t)); (try (have ax : (m == p) = false := by simpa using t)); (try (have bU : ¬ (m = p) := by simpa using t)); clear t; exact absurd (Option.some.inj H) (by rw [hrt.out]; decide)
    ·obtain rfl := nt_ ai; rw [if_neg nf_] at H; obtain ⟨d, bh, H⟩ := bi_ H; have H' := am H; clear H; have aF := c2 b
     go_wp2_with (first | ((with_reducible refine gate_callee (f := 17) rfl ?_); refine gl_ (some 68) Try.func17 #[.agg #[.int .i64 o, .slice A a.length x], .int .i64 q, .int .i64 z] ?_; (with_reducible refine (impl_WayAll.calls kj5 o _ _ a q z d _ ?z_1 ?z_2 bh.out).mono ?_); (case z_1 => exact (Kd.R_reads' (onR g)).2.2); (case z_2 => exact (Kd.R_reads' g.out).2.1); rintro e w22 ⟨bi, rfl, O, hb⟩; refine ⟨_, rfl, ?_⟩; replace g := am (Kd.R_below (onR g) hb); have bj := am (Kd.S_lower O (below_size (bn HB))); replace b := bb b hb; replace HB := bs HB hb; (try clear hb O)))
     go_loopg [11] kj5 (fun kq bk w' => ∃ (E : Int), bk = .int .i64 E ∧ Aside0 (laws_FnTwoCut.l0 kq q z l d E o a = some r) ∧ Aside0 (kq ≤ kj5) ∧ Aside0 (Kd.S (Kd.slice 3 (Kd.int .i64)) 39 w' w.heap.size (fun _ => True) bi d) ∧ Aside0 (Kd.R k44 44 w' w.heap.size (fun _ => True) (.slice A a.length x) a) ∧ Bk w' aq (.cells #[.int .i64 o, (.slice A a.length x)] 25 (0, 0)) ∧ Aside0 (Below w.heap.size w w'))
     case atStart => exact ⟨(0), rs_, H', ⟨Nat.le_refl _⟩, ⟨onS bj⟩, ⟨onR g⟩, ⟨bkn b⟩, ⟨bn HB⟩⟩
     case round =>
      clear H'; (try clear c2 ab ad s J ae af D ag ah ai t av aw ax I ay az aj au aF ar); obtain ⟨E, rfl, HA, L, i, g, b, HB⟩ := hrel; cases gk with
      | zero => exact absurd HA.out (by simp [laws_FnTwoCut.l0])
      | succ k2 =>
       have H := HA.out; clear HA; simp only [laws_FnTwoCut.l0] at H; by_cases P : E < (d.length : Int)
       ·rw [if_pos P] at H; have aG := decide_eq_true P; clear P; obtain ⟨aM, H⟩ := id_ H; obtain ⟨bl, bo, H⟩ := bi_ H; by_cases aA : bl = true
        ·subst aA; rw [if_pos rfl] at H; have H' := am H; clear H; obtain ⟨bV, bW, bp⟩ := Kd.S_slice i.out; subst bp; have Y : 0 ≤ (E : Int) := oa; have Z : E < (d.length : Int) := oa; obtain ⟨bX, br, bu, bv, aH, aY, aZ⟩ := at_L6 (Kd.S_reads' i.out).2.2 E Y Z; cases bv; obtain ⟨bY, bw, bx, a0⟩ := Kd.S_get i.out [] E Y (by first | exact Z | exact oa | (have e_ := (Kd.S_reads' i.out).1; omega)); obtain ⟨bZ, rfl, aN⟩ := bx; have aB := a0 0 _ rfl; rw [Nat.add_zero, show ((Kd.slice 3 (Kd.int .i64))).sz = 1 from rfl, Nat.mul_one] at aB; replace aB := Option.some.inj (aB.symm.trans aH); rw [aB] at aN; have b0 := am (show Kd.R (Kd.int .i64) 3 _ _ _ _ (rd_L6 d E) from aN); clear aB aN a0 bw; have a1 := am aZ; have bz := am aY; clear aZ aY; obtain ⟨Y, Z⟩ := e2_ Y Z
         go_wp2_with (first | ((with_reducible refine gate_callee (f := 18) rfl ?_); refine gl_ (some 80) Try.func18 #[.slice br (rd_L6 d E).length bu, .int .i64 l] ?_; (with_reducible refine (laws_loIn.calls k2 _ _ (rd_L6 d E) l true _ ?z_1 ?z_2 bo.out).mono ?_); (case z_1 => repeat (first | exact (by repeat (first | (with_reducible exact a1.out) | (with_reducible refine Kd.C_alloc ?_ _) | (with_reducible refine Kd.C_drewN ?_ _) | (with_reducible refine Kd.C_drew ?_) | exact a1.out)) | (with_reducible refine Kd.C_alloc ?_ _) | (with_reducible refine Kd.C_drewN ?_ _) | (with_reducible refine Kd.C_drew ?_))); (case z_2 => exact bz.out); rintro e w' ⟨rfl, ⟨nd, rfl⟩⟩; refine ⟨_, rfl, ?_⟩))
         go_roundg k2
         case measure => have := K.out; have := L.out; omega
         case rel => exact ⟨(wrap64 (E + 1)), rs_, H', ⟨by have := K.out; have := L.out; omega⟩, ⟨onS i⟩, ⟨onR g⟩, ⟨bkn b⟩, ⟨bn HB⟩⟩
        ·obtain rfl := nt_ aA; rw [if_neg nf_] at H; exact absurd (Option.some.inj H) (by rw [hrt.out]; decide)
       ·rw [if_neg P] at H; have aG := decide_eq_false P; clear P; have H' := am H; clear H; obtain ⟨aO, aP, bA⟩ := Kd.S_slice i.out; subst bA; go_wp2
        go_loopg [12] k2 (fun kq bB w' => ∃ (y : Int), bB = .int .i64 y ∧ Aside0 (laws_FnTwoCut.l1 kq q z l d y o a = some r) ∧ Aside0 (kq ≤ k2) ∧ Aside0 (Kd.S (Kd.slice 3 (Kd.int .i64)) 39 w' w.heap.size (fun _ => True) (.slice aO d.length aP) d) ∧ Aside0 (Kd.R k44 44 w' w.heap.size (fun _ => True) (.slice A a.length x) a) ∧ Bk w' aq (.cells #[.int .i64 o, (.slice A a.length x)] 25 (0, 0)) ∧ Aside0 (Below w.heap.size w w'))
        case atStart => exact ⟨(0), rs_, H', ⟨Nat.le_refl _⟩, ⟨onS i⟩, ⟨onR g⟩, ⟨bkn b⟩, ⟨bn HB⟩⟩
        case round =>
         clear H'; (try clear c2 ab ad s J ae af D ag ah ai t av aw ax I ay az aj P aG aM aA au aF ar aH Y Z); obtain ⟨y, rfl, HA, W, i, g, b, HB⟩ := hrel; cases gk with
         | zero => exact absurd HA.out (by simp [laws_FnTwoCut.l1])
         | succ k3 =>
          have H := HA.out; clear HA; simp only [laws_FnTwoCut.l1] at H; by_cases X : y < l
          ·rw [if_pos X] at H; have aQ := decide_eq_true X; clear X; have aR := am H; clear H
           go_upto_region 17 with (fail)
           go_cut [13] (fun aS wc => ∃ (kq : Nat) (aI : Bool), aS = .bool aI ∧ Aside0 (laws_FnTwoCut.j3 kq q z l d y aI o a = some r) ∧ Aside0 (kq ≤ k3) ∧ Aside0 (Kd.S (Kd.slice 3 (Kd.int .i64)) 39 wc w.heap.size (fun _ => True) (.slice aO d.length aP) d) ∧ Aside0 (Kd.R k44 44 wc w.heap.size (fun _ => True) (.slice A a.length x) a) ∧ Bk wc aq (.cells #[.int .i64 o, (.slice A a.length x)] 25 (0, 0)) ∧ Aside0 (Below w.heap.size w wc))
           case first =>
            have H := aR.out; clear aR; by_cases T : y = q
            ·rw [if_pos T] at H; have aa : (y == q) = true := beq_iff_eq.mpr T; have aT : (y != q) = false := bne_eq_false_iff_eq.mpr T; clear T; (first | rw [aa] | (simp only [i64_w, i32_w]; rw [aa]) | skip); have H' := am H; clear H; go_wp2
             go_meet
             case rel => exact ⟨_, (false), rs_, H', ⟨by have := K.out; have := L.out; have := W.out; first | omega | exact Nat.le_refl _⟩, ⟨onS i⟩, ⟨onR g⟩, ⟨bkn b⟩, ⟨bn HB⟩⟩
            ·rw [if_neg T] at H; have aa : (y == q) = false := beq_eq_false_iff_ne.mpr T; have aT : (y != q) = true := bne_iff_ne.mpr T; (first | rw [aa] | (simp only [i64_w, i32_w]; rw [aa]) | skip); have H' := am H; clear H; go_wp2
             go_meet
             case rel => exact ⟨_, ((y != z)), rs_, H', ⟨by have := K.out; have := L.out; have := W.out; first | omega | exact Nat.le_refl _⟩, ⟨onS i⟩, ⟨onR g⟩, ⟨bkn b⟩, ⟨bn HB⟩⟩
           case rest =>
            clear aR; (try clear c2 ab ad s J ae af D ag ah ai t av aw ax I ay az aj P aG aM aA X aQ T aa aT au aF ar aH Y Z); obtain ⟨kq, aI, rfl, HA, ak, i, g, b, HB⟩ := hcut; cases kq with
            | zero => exact absurd HA.out (by simp [laws_FnTwoCut.j3])
            | succ kj29 =>
             have H := HA.out; clear HA; simp only [laws_FnTwoCut.j3] at H; have H' := am H; clear H; go_wp2
             go_loopg [13, 14] kj29 (fun kq aS bC w' => ∃ (aC : Bool) (G : Int), aS = .bool aC ∧ bC = .int .i64 G ∧ Aside0 (laws_FnTwoCut.l2 kq q z l d y aC G o a = some r) ∧ Aside0 (kq ≤ kj29) ∧ Aside0 (Kd.S (Kd.slice 3 (Kd.int .i64)) 39 w' w.heap.size (fun _ => True) (.slice aO d.length aP) d) ∧ Aside0 (Kd.R k44 44 w' w.heap.size (fun _ => True) (.slice A a.length x) a) ∧ Bk w' aq (.cells #[.int .i64 o, (.slice A a.length x)] 25 (0, 0)) ∧ Aside0 (Below w.heap.size w w'))
             case atStart => exact ⟨(aI), (0), rs_, rs_, H', ⟨Nat.le_refl _⟩, ⟨onS i⟩, ⟨onR g⟩, ⟨bkn b⟩, ⟨bn HB⟩⟩
             case round =>
              clear H'; (try clear c2 ab ad s J ae af D ag ah ai t av aw ax I ay az aj P aG aM aA X aQ T aa aT au aF ar aH Y Z); obtain ⟨aC, G, rfl, rfl, HA, al, i, g, b, HB⟩ := hrel; cases gk with
              | zero => exact absurd HA.out (by simp [laws_FnTwoCut.l2])
              | succ k5 =>
               have H := HA.out; clear HA; simp only [laws_FnTwoCut.l2] at H; by_cases an : G < (d.length : Int)
               ·rw [if_pos an] at H; have bD := decide_eq_true an; clear an; by_cases a2 : aC = true
                ·subst a2; rw [if_pos rfl] at H; obtain ⟨b1, H⟩ := id_ H; obtain ⟨a3, bE, H⟩ := bi_ H; have H' := am H; clear H; have aJ : 0 ≤ (G : Int) := oa; have aK : G < (d.length : Int) := oa; obtain ⟨b2, b3, b4, bF, bG, a4, a5⟩ := at_L6 (Kd.S_reads' i.out).2.2 G aJ aK; cases bF; obtain ⟨b5, bH, bI, a6⟩ := Kd.S_get i.out [] G aJ (by first | exact aK | exact oa | (have e_ := (Kd.S_reads' i.out).1; omega)); obtain ⟨b6, rfl, aU⟩ := bI; have aD := a6 0 _ rfl; rw [Nat.add_zero, show ((Kd.slice 3 (Kd.int .i64))).sz = 1 from rfl, Nat.mul_one] at aD; replace aD := Option.some.inj (aD.symm.trans bG); rw [aD] at aU; have b7 := am (show Kd.R (Kd.int .i64) 3 _ _ _ _ (rd_L6 d G) from aU); clear aD aU a6 bH; have a7 := am a5; have bJ := am a4; clear a5 a4; obtain ⟨aJ, aK⟩ := e2_ aJ aK
                 go_wp2_with (first | (go_at_call 18; (with_reducible refine (laws_loIn.calls k5 _ _ (rd_L6 d G) y a3 _ ?z_1 ?z_2 bE.out).mono ?_); (case z_1 => repeat (first | exact (by repeat (first | (with_reducible exact a7.out) | (with_reducible refine Kd.C_alloc ?_ _) | (with_reducible refine Kd.C_drewN ?_ _) | (with_reducible refine Kd.C_drew ?_) | exact a7.out)) | (with_reducible refine Kd.C_alloc ?_ _) | (with_reducible refine Kd.C_drewN ?_ _) | (with_reducible refine Kd.C_drew ?_))); (case z_2 => exact bJ.out); rintro e w' ⟨rfl, ⟨nd, rfl⟩⟩))
                 go_roundg k5
                 case measure => have := K.out; have := L.out; have := W.out; have := ak.out; have := al.out; omega
                 case rel => exact ⟨(a3), (wrap64 (G + 1)), rs_, rs_, H', ⟨by have := K.out; have := L.out; have := W.out; have := ak.out; have := al.out; omega⟩, ⟨onS i⟩, ⟨onR g⟩, ⟨bkn b⟩, ⟨bn HB⟩⟩
                ·obtain rfl := nt_ a2; rw [if_neg nf_] at H; have H' := am H; clear H; go_wp2
                 go_roundg k5
                 case measure => have := K.out; have := L.out; have := W.out; have := ak.out; have := al.out; omega
                 case rel => exact ⟨(false), (wrap64 (G + 1)), rs_, rs_, H', ⟨by have := K.out; have := L.out; have := W.out; have := ak.out; have := al.out; omega⟩, ⟨onS i⟩, ⟨onR g⟩, ⟨bkn b⟩, ⟨bn HB⟩⟩
               ·rw [if_neg an] at H; have bD := decide_eq_false an; clear an; by_cases a8 : aC = true
                ·subst a8; rw [if_pos rfl] at H; exact absurd (Option.some.inj H) (by rw [hrt.out]; decide)
                ·obtain rfl := nt_ a8; rw [if_neg nf_] at H; have H' := am H; clear H; go_wp2
                 go_roundg k5
                 case measure => have := K.out; have := L.out; have := W.out; have := ak.out; have := al.out; omega
                 case rel => exact ⟨(wrap64 (y + 1)), rs_, H', ⟨by have := K.out; have := L.out; have := W.out; have := ak.out; have := al.out; omega⟩, ⟨onS i⟩, ⟨onR g⟩, ⟨bkn b⟩, ⟨bn HB⟩⟩
          ·rw [if_neg X] at H; have aQ := decide_eq_false X; clear X; by_cases ap : (d.length : Int) > 0
           ·rw [if_pos ap] at H; have bK := decide_eq_true ap; have bL : decide (0 < d.length) = true := decide_eq_true (by omega); clear ap; obtain ⟨a9, bM, H⟩ := bi_ H; obtain ⟨bN, bO, H⟩ := bi_ H; obtain rfl := Option.some.inj H; have b8 := c2 b
            go_wp2_with (first | (go_at_call 19; (with_reducible refine (impl_BlockCuts.calls k3 o _ _ a a9 _ ?z_1 ?z_2 bM.out).mono ?_); (case z_1 => exact (Kd.R_reads' (onR g)).2.2); (case z_2 => exact (Kd.R_reads' g.out).2.1); rintro e w41 ⟨b9, rfl, O, hb⟩; replace i := am (Kd.S_elder' (onS i) (Kd.R_base O) hb); replace g := am (Kd.R_below (onR g) hb); have aV := am (Kd.R_lower O (below_size (bn HB))); replace b := bb b hb; replace HB := bs HB hb; (try clear hb O); obtain ⟨ca, cc, bP⟩ := Kd.R_slice aV.out; subst bP) | (go_at_call 18; (with_reducible refine (laws_loIn.calls k3 _ _ a9 l bN _ ?z_1 ?z_2 bO.out).mono ?_); (case z_1 => exact (Kd.R_reads' (onR aV)).2.2); (case z_2 => exact (Kd.R_reads' aV.out).2.1); rintro e w' ⟨rfl, ⟨nd, rfl⟩⟩))
            go_ret
            exact ⟨er_, bn HB⟩
           ·rw [if_neg ap] at H; have bK := decide_eq_false ap; have bL : decide (0 < d.length) = false := decide_eq_false (by omega); clear ap; exact absurd (Option.some.inj H) (by rw [hrt.out]; decide)

/-- what is to be proved of laws_FnTwoCut, without Go -/
def laws_FnTwoCut.Pure : Prop := ∀ (l0 : List Int), (l0.length ≤ maxLen ∧ ∀ l0_ ∈ l0, ((Lit.int .u8 l0_).wf = true)) → ∃ k, laws_FnTwoCut.f k l0 = some true

end Go.Proofs.Ytlddkafpbhjpdaa.F
