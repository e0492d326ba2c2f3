-- By oprint.py.
import Derived.Test.YthmddmobfkfgeaaF0
import Derived.Test.YthmddmobfkfgeaaF51
import Derived.Test.YthmddmobfkfgeaaF60
import Derived.Test.YthmddmobfkfgeaaF72
import Derived.Test.YthmddmobfkfgeaaF76
import Derived.Test.YthmddmobfkfgeaaXBlockKnots
namespace Go.Proofs.Ythmddmobfkfgeaa.F
open Go.RowKit Go.Proofs.YthmddmobfkfgeaaW.PrintWords Go.Proofs.YthmddmobfkfgeaaW.PrintLast Go.Proofs.YthmddmobfkfgeaaW.PrintMore
attribute [local go_sem] max2_int min2_int max_two min_two max_three min_three max_four min_four
set_option linter.unusedVariables false
set_option linter.unusedSimpArgs false

/-! ### laws_FnTwoBlock: function 23 -/
mutual
def laws_FnTwoBlock.j0 : Nat → Int → Int → Bool → Bool → Bool → Int → List (S33) → Option (Bool)
 | 0, _, _, _, _, _, _, _ => none
 | k + 1, x4, x5, x8, x11, x47, x1833000, x1833001 => if x47 = true then (some (x11 == x8)) else ((impl_BlockKnots.f k x1833000 x1833001).bind fun t1847 => (laws_FnTwoBlock.l0 k x4 x5 x11 t1847 false 0))
def laws_FnTwoBlock.l0 : Nat → Int → Int → Bool → List (List Int) → Bool → Int → Option (Bool)
 | 0, _, _, _, _, _, _ => none
 | k + 1, x4, x5, x11, x12, x13, x14 => if x14 < (x12.length : Int) then (if x13 = true then (laws_FnTwoBlock.l0 k x4 x5 x11 x12 true (wrap64 (x14 + 1))) else (if 0 ≤ x14 then (if ((rd_L6 x12 x14).length : Int) > 2 then ((laws_loIn.f k (rd_L6 x12 x14) x4).bind fun t1852 => (if t1852 = true then ((laws_loIn.f k (rd_L6 x12 x14) x5).bind fun t1854 => (laws_FnTwoBlock.l0 k x4 x5 x11 x12 t1854 (wrap64 (x14 + 1)))) else (laws_FnTwoBlock.l0 k x4 x5 x11 x12 false (wrap64 (x14 + 1))))) else (laws_FnTwoBlock.l0 k x4 x5 x11 x12 false (wrap64 (x14 + 1)))) else (none))) else (some (x11 == x13))
end
def laws_FnTwoBlock.f (k : Nat) (l0 : List Int) : Option (Bool) := if (l0.length : Int) > 1048576 then (some true) else ((spec_DrawTwoFind.f k l0).bind fun bt1826 => ((spec_TwoFind.f k bt1826.1 bt1826.2.1 bt1826.2.2.1 bt1826.2.2.2).bind fun bt1833 => ((impl_TwoFind.f k bt1826.1 bt1826.2.1 bt1826.2.2.1 bt1826.2.2.2).bind fun bt1840 => (if (bt1840.2.2 != bt1833.2.2) = true then (laws_FnTwoBlock.j0 k bt1826.2.2.1 bt1826.2.2.2 bt1833.2.2 bt1840.2.2 true bt1826.1 bt1826.2.1) else (laws_FnTwoBlock.j0 k bt1826.2.2.1 bt1826.2.2.2 bt1833.2.2 bt1840.2.2 (bt1826.2.2.1 == bt1826.2.2.2) bt1826.1 bt1826.2.1)))))
theorem laws_FnTwoBlock.mono_l : ∀ k, (∀ a b c d e f g, LeO (laws_FnTwoBlock.j0 k a b c d e f g) (laws_FnTwoBlock.j0 (k + 1) a b c d e f g)) ∧ (∀ a b c d e f, LeO (laws_FnTwoBlock.l0 k a b c d e f) (laws_FnTwoBlock.l0 (k + 1) a b c d e f))
 | 0 => ⟨fun _ _ _ _ _ _ _ r h => by simp [laws_FnTwoBlock.j0] at h, fun _ _ _ _ _ _ r h => by simp [laws_FnTwoBlock.l0] at h⟩
 | k + 1 => by
  obtain ⟨ih0, ih1⟩ := laws_FnTwoBlock.mono_l k; refine ⟨?_, ?_⟩
  ·intro a b c d e f g; unfold laws_FnTwoBlock.j0; have i := @impl_BlockKnots.mono; have j := @impl_TwoFind.mono; have l := @laws_loIn.mono; have m := @spec_DrawTwoFind.mono; have n := @spec_TwoFind.mono; exact mo_
  ·intro a b c d e f; unfold laws_FnTwoBlock.l0; have i := @impl_BlockKnots.mono; have j := @impl_TwoFind.mono; have l := @laws_loIn.mono; have m := @spec_DrawTwoFind.mono; have n := @spec_TwoFind.mono; exact mo_
theorem laws_FnTwoBlock.mono : ∀ a k, LeO (laws_FnTwoBlock.f k a) (laws_FnTwoBlock.f (k + 1) a) := by
 intro a k; obtain ⟨ih0, ih1⟩ := laws_FnTwoBlock.mono_l k; unfold laws_FnTwoBlock.f; have m0_ := @impl_BlockKnots.mono; have m1_ := @impl_TwoFind.mono; have m2_ := @laws_loIn.mono; have m3_ := @spec_DrawTwoFind.mono; have m4_ := @spec_TwoFind.mono; exact mo_
set_option maxHeartbeats 8000000 in
set_option maxRecDepth 100000 in
theorem laws_FnTwoBlock.calls (k : Nat) (A0 : Option Addr) (c0 : Nat) (l0 : List Int) (r : Bool) (w : World) (aK : Kd.C (Kd.int .u8) w A0 l0.length l0) (aL : l0.length ≤ c0) (hrt : Aside0 (r = true)) (h : laws_FnTwoBlock.f k l0 = some r) :
  Calls Try.prog 23 #[.slice A0 l0.length c0] w fun e w' => e = .returned (.bool r) ∧ Below w.heap.size w w' := by
 have bN := Try.underlying31; have a6 := am aK; have a7 := am aL; clear aK aL; have HB := am (Below.refl w.heap.size w)
 have H : (if (l0.length : Int) > 1048576 then (some true) else ((spec_DrawTwoFind.f k l0).bind fun l => ((spec_TwoFind.f k l.1 l.2.1 l.2.2.1 l.2.2.2).bind fun aw => ((impl_TwoFind.f k l.1 l.2.1 l.2.2.1 l.2.2.2).bind fun ax => (if (ax.2.2 != aw.2.2) = true then (laws_FnTwoBlock.j0 k l.2.2.1 l.2.2.2 aw.2.2 ax.2.2 true l.1 l.2.1) else (laws_FnTwoBlock.j0 k l.2.2.1 l.2.2.2 aw.2.2 ax.2.2 (l.2.2.1 == l.2.2.2) l.1 l.2.1)))))) = some r := h
 clear h; by_cases c2 : (l0.length : Int) > 1048576
 ·rw [if_pos c2] at H; have ay := decide_eq_true c2; have az : decide (1048576 < l0.length) = true := decide_eq_true (by omega); clear c2; obtain rfl := Option.some.inj H; go_enter Try.func23, Try.ntmps23; go_wp2
  go_ret
  exact ⟨er_, bn HB⟩
 ·rw [if_neg c2] at H; have ay := decide_eq_false c2; have az : decide (1048576 < l0.length) = false := decide_eq_false (by omega); clear c2; obtain ⟨⟨x, j, E, J⟩, A3, H⟩ := bi_ H; (try dsimp only at H); obtain ⟨⟨a8, a9, G⟩, A4, H⟩ := bi_ H; (try dsimp only at H); obtain ⟨⟨ba, bd, z⟩, A5, H⟩ := bi_ H; (try dsimp only at H); have aA := am H; clear H; go_enter Try.func23, Try.ntmps23
  go_upto_region 6 with (first | ((with_reducible refine gate_callee (f := 73) rfl ?_); refine gl_ (some 20) Try.func73 #[.slice A0 l0.length c0] ?_; (with_reducible refine (spec_DrawTwoFind.calls k _ _ l0 x j E J _ ?z_1 ?z_2 A3.out).mono ?_); (case z_1 => repeat (first | exact a6.out | (with_reducible refine Kd.C_alloc ?_ _) | (with_reducible refine Kd.C_drewN ?_ _) | (with_reducible refine Kd.C_drew ?_))); (case z_2 => exact a7.out); rintro e w7 ⟨bO, rfl, t, hb⟩; refine ⟨_, rfl, ?_⟩; have p := am (Kd.R_lower t (below_size (bn HB))); replace HB := bs HB hb; (try clear hb t)) | ((with_reducible refine gate_dst (N := 3) rfl ?_); refine bx_ 3 #[.int .i64 0, .slice none 0 0] 31 HB ?_; clear HB; intro aa hg w8 hb i bP HB; replace p := am (Kd.R_below (onR p) hb); clear hb hg; have aM := c2 i; obtain ⟨A, y, bf⟩ := Kd.R_slice p.out; subst bf) | ((with_reducible refine gate_callee (f := 69) rfl ?_); refine gl_ (some 28) Try.func69 #[.agg #[.int .i64 x, .slice A j.length y], .int .i64 E, .int .i64 J] ?_; (with_reducible refine (spec_TwoFind.calls k x _ _ j E J a8 a9 G _ ?z_1 ?z_2 A4.out).mono ?_); (case z_1 => refine (Kd.R_reads' (e := 33) (base := w.heap.size) (ok := fun k_ => True) (n := j.length) (c := y) ?_).2.2; exact (onR p)); (case z_2 => exact (Kd.R_reads' p.out).2.1); rintro e w11 ⟨bQ, bR, rfl, t, X, hb⟩; refine ⟨_, rfl, ?_⟩; have aN := am (Kd.V_lower (Kd.V_mono (ok' := fun k_ => some k_ ≠ (.slice A j.length y : Value).ownBlock ∧ k_ ≠ aa) t (fun k_ hk_ => ⟨(Kd.fresh' (Kd.R_lt (onR p)) k_ hk_), (Kd.freshB (g := aa) (o := .cells #[.int .i64 x, .slice A j.length y] 31 (0, 0)) (bkn i) k_ hk_)⟩)) (below_size (bn HB))); have aO := am (Kd.V_lower (Kd.V_mono (ok' := fun k_ => some k_ ≠ (.slice A j.length y : Value).ownBlock ∧ k_ ≠ aa) X (fun k_ hk_ => ⟨(Kd.fresh' (Kd.R_lt (onR p)) k_ hk_), (Kd.freshB (g := aa) (o := .cells #[.int .i64 x, .slice A j.length y] 31 (0, 0)) (bkn i) k_ hk_)⟩)) (below_size (bn HB))); replace p := am (Kd.R_below (onR p) hb); replace i := bb i hb; replace HB := bs HB hb; (try clear hb t X); have aP := c2 i) | ((with_reducible refine gate_callee (f := 60) rfl ?_); refine gl_ (some 36) Try.func60 #[.agg #[.int .i64 x, .slice A j.length y], .int .i64 E, .int .i64 J] ?_; (with_reducible refine (impl_TwoFind.calls k x _ _ j E J ba bd z _ ?z_1 ?z_2 A5.out).mono ?_); (case z_1 => exact (Kd.R_reads' (onR p)).2.2); (case z_2 => exact (Kd.R_reads' p.out).2.1); rintro e w13 ⟨bS, bT, rfl, t, X, hb⟩; refine ⟨_, rfl, ?_⟩; replace p := am (Kd.R_below (onR p) hb); replace aN := am (Kd.V_mono (Kd.V_told (Kd.V_told (Kd.V_old (onV aN) hb) (Kd.R_base t)) (Kd.R_base X)) (fun _ h_ => h_.1)); replace aO := am (Kd.V_mono (Kd.V_told (Kd.V_told (Kd.V_old (onV aO) hb) (Kd.R_base t)) (Kd.R_base X)) (fun _ h_ => h_.1)); have bU := am (Kd.R_lower t (below_size (bn HB))); have bV := am (Kd.R_lower X (below_size (bn HB))); replace i := bb i hb; replace HB := bs HB hb; (try clear hb t X)))
  (try simp only [Act.put, List.setIfInBounds_toArray, List.set_cons_zero, List.set_cons_succ])
  go_cut [47] (fun bg wc => ∃ (kq : Nat) (aq : Bool), bg = .bool aq ∧ Aside0 (laws_FnTwoBlock.j0 kq E J G z aq x j = some r) ∧ Aside0 (kq ≤ k) ∧ Aside0 (Kd.R k33 33 wc w.heap.size (fun _ => True) (.slice A j.length y) j) ∧ Bk wc aa (.cells #[.int .i64 x, (.slice A j.length y)] 31 (0, 0)) ∧ Aside0 (Below w.heap.size w wc))
  case first =>
   have H := aA.out; clear aA; by_cases u : (z != G) = true
   ·rw [if_pos u] at H; have Y : (z != G) = true := u; (try (have aB : decide (z = G) = false := by simpa using u)); (try (have aC : (z == G) = false := by simpa using u)); (try (have bW : ¬ (z = G) := by simpa using u)); clear u; (first | rw [Y] | (simp only [i64_w, i32_w]; rw [Y]) | skip); have H' := am H; clear H; go_wp2
    go_meet
    case rel => exact ⟨_, (true), rs_, H', ⟨by first | omega | exact Nat.le_refl _⟩, ⟨onR p⟩, ⟨bkn i⟩, ⟨bn HB⟩⟩
   ·rw [if_neg u] at H; have Y : (z != G) = false := by simpa using u
    (try (have aB : decide (z = G) = true := by simpa using u)); (try (have aC : (z == G) = true := by simpa using u)); clear u; (first | rw [Y] | (simp only [i64_w, i32_w]; rw [Y]) | skip); have H' := am H; clear H; go_wp2
    go_meet
    case rel => exact ⟨_, ((E == J)), rs_, H', ⟨by first | omega | exact Nat.le_refl _⟩, ⟨onR p⟩, ⟨bkn i⟩, ⟨bn HB⟩⟩
  case rest =>
   clear aA; (try clear c2 ay az u Y aB aC aP aM); obtain ⟨kq, aq, rfl, HA, M, I, i, HB⟩ := hcut; cases kq with
   | zero => exact absurd HA.out (by simp [laws_FnTwoBlock.j0])
   | succ kj5 =>
    have H := HA.out; clear HA; simp only [laws_FnTwoBlock.j0] at H; by_cases aD : aq = true
    ·subst aD; rw [if_pos rfl] at H; obtain rfl := Option.some.inj H; go_wp2
     go_ret
     exact ⟨er_, bn HB⟩
    ·obtain rfl := nt_ aD; rw [if_neg nf_] at H; obtain ⟨d, bh, H⟩ := bi_ H; have H' := am H; clear H; have bi := c2 i
     go_wp2_with (first | ((with_reducible refine gate_callee (f := 51) rfl ?_); refine gl_ (some 52) Try.func51 #[.agg #[.int .i64 x, .slice A j.length y]] ?_; (with_reducible refine (impl_BlockKnots.calls kj5 x _ _ j d _ ?z_1 ?z_2 bh.out).mono ?_); (case z_1 => exact (Kd.R_reads' (onR I)).2.2); (case z_2 => exact (Kd.R_reads' I.out).2.1); rintro e w18 ⟨bj, rfl, t, hb⟩; refine ⟨_, rfl, ?_⟩; replace I := am (Kd.R_below (onR I) hb); have bk := am (Kd.S_lower t (below_size (bn HB))); replace i := bb i hb; replace HB := bs HB hb; (try clear hb t)))
     go_loopg [13, 14] kj5 (fun kq bl bo w' => ∃ (ar : Bool) (a : Int), bl = .bool ar ∧ bo = .int .i64 a ∧ Aside0 (laws_FnTwoBlock.l0 kq E J z d ar a = some r) ∧ Aside0 (kq ≤ kj5) ∧ Aside0 (Kd.S (Kd.slice 3 (Kd.int .i64)) 57 w' w.heap.size (fun _ => True) bj d) ∧ Aside0 (Kd.R k33 33 w' w.heap.size (fun _ => True) (.slice A j.length y) j) ∧ Bk w' aa (.cells #[.int .i64 x, (.slice A j.length y)] 31 (0, 0)) ∧ Aside0 (Below w.heap.size w w'))
     case atStart => exact ⟨(false), (0), rs_, rs_, H', ⟨Nat.le_refl _⟩, ⟨onS bk⟩, ⟨onR I⟩, ⟨bkn i⟩, ⟨bn HB⟩⟩
     case round =>
      clear H'; (try clear c2 ay az u Y aB aC aD aP bi aM); obtain ⟨ar, a, rfl, rfl, HA, O, b, I, i, HB⟩ := hrel; cases gk with
      | zero => exact absurd HA.out (by simp [laws_FnTwoBlock.l0])
      | succ k2 =>
       have H := HA.out; clear HA; simp only [laws_FnTwoBlock.l0] at H; by_cases ab : a < (d.length : Int)
       ·rw [if_pos ab] at H; have bp := decide_eq_true ab; clear ab; by_cases aQ : ar = true
        ·subst aQ; rw [if_pos rfl] at H; have H' := am H; clear H; obtain ⟨bX, bY, br⟩ := Kd.S_slice b.out; subst br; go_wp2
         go_roundg k2
         case measure => have := M.out; have := O.out; omega
         case rel => exact ⟨(true), (wrap64 (a + 1)), rs_, rs_, H', ⟨by have := M.out; have := O.out; omega⟩, ⟨onS b⟩, ⟨onR I⟩, ⟨bkn i⟩, ⟨bn HB⟩⟩
        ·obtain rfl := nt_ aQ; rw [if_neg nf_] at H; obtain ⟨bZ, H⟩ := id_ H; by_cases ad : ((rd_L6 d a).length : Int) > 2
         ·rw [if_pos ad] at H; have bu := decide_eq_true ad; have bv : decide (2 < (rd_L6 d a).length) = true := decide_eq_true (by omega); clear ad; obtain ⟨bw, aR, H⟩ := bi_ H; by_cases aS : bw = true
          ·subst aS; rw [if_pos rfl] at H; obtain ⟨aT, bx, H⟩ := bi_ H; have H' := am H; clear H; obtain ⟨b0, b1, bz⟩ := Kd.S_slice b.out; subst bz; have q : 0 ≤ (a : Int) := oa; have s : a < (d.length : Int) := oa; obtain ⟨ae, aU, aV, af, P, T, U⟩ := at_L6 (Kd.S_reads' b.out).2.2 a q s; cases af; obtain ⟨aW, ag, ah, W⟩ := Kd.S_get b.out [] a q (by first | exact s | exact oa | (have e_ := (Kd.S_reads' b.out).1; omega)); obtain ⟨aX, rfl, B⟩ := ah; have m := W 0 _ rfl; rw [Nat.add_zero, show ((Kd.slice 3 (Kd.int .i64))).sz = 1 from rfl, Nat.mul_one] at m; replace m := Option.some.inj (m.symm.trans P); rw [m] at B; have aY := am (show Kd.R (Kd.int .i64) 3 _ _ _ _ (rd_L6 d a) from B); clear m B W ag; have aZ := am U; have a0 := am T; clear U T; obtain ⟨q, s⟩ := e2_ q s; have K : 0 ≤ (a : Int) := oa; have L : a < (d.length : Int) := oa; obtain ⟨aE, bA, bB, aF, ai, aj, ak⟩ := at_L6 (Kd.S_reads' b.out).2.2 a K L; obtain rfl : ae = aE := (by injection aF); obtain ⟨bC, aG, aH, al⟩ := Kd.S_get b.out [] a K (by first | exact L | exact oa | (have e_ := (Kd.S_reads' b.out).1; omega)); obtain ⟨bD, rfl, Z⟩ := aH; have D := al 0 _ rfl; rw [Nat.add_zero, show ((Kd.slice 3 (Kd.int .i64))).sz = 1 from rfl, Nat.mul_one] at D; replace D := Option.some.inj (D.symm.trans ai); rw [D] at Z; have bE := am (show Kd.R (Kd.int .i64) 3 _ _ _ _ (rd_L6 d a) from Z); clear D Z al aG; have an := am ak; have aI := am aj; clear ak aj; obtain ⟨K, L⟩ := e2_ K L; have ea_ := Option.some.inj (P.symm.trans ai); injection ea_ with ea_ en_ ec_
           subst ea_; subst ec_; clear en_
           go_wp2_with (first | (go_at_call 52; (with_reducible refine (laws_loIn.calls k2 _ _ (rd_L6 d a) E true _ ?z_1 ?z_2 aR.out).mono ?_); (case z_1 => repeat (first | exact (by repeat (first | (with_reducible exact an.out) | (with_reducible refine Kd.C_alloc ?_ _) | (with_reducible refine Kd.C_drewN ?_ _) | (with_reducible refine Kd.C_drew ?_) | exact an.out)) | (with_reducible refine Kd.C_alloc ?_ _) | (with_reducible refine Kd.C_drewN ?_ _) | (with_reducible refine Kd.C_drew ?_))); (case z_2 => exact aI.out); rintro e w' ⟨rfl, ⟨nd, rfl⟩⟩; have au : 0 ≤ (a : Int) := oa; have av : a < (d.length : Int) := oa; obtain ⟨bF, b2, b3, bG, a1, a2, a3⟩ := at_L6 (Kd.S_reads' b.out).2.2 a au av; obtain rfl : ae = bF := (by injection bG); obtain ⟨b4, bH, bI, a4⟩ := Kd.S_get b.out [] a au (by first | exact av | exact oa | (have e_ := (Kd.S_reads' b.out).1; omega)); obtain ⟨b5, rfl, aJ⟩ := bI; have ap := a4 0 _ rfl; rw [Nat.add_zero, show ((Kd.slice 3 (Kd.int .i64))).sz = 1 from rfl, Nat.mul_one] at ap; replace ap := Option.some.inj (ap.symm.trans a1); rw [ap] at aJ; have b6 := am (show Kd.R (Kd.int .i64) 3 _ _ _ _ (rd_L6 d a) from aJ); clear ap aJ; clear a4 bH; have a5 := am a3; have bJ := am a2; clear a3 a2; replace au := eq_true au; replace av := eq_true av; have ea_ := Option.some.inj (P.symm.trans a1); injection ea_ with ea_ en_ ec_; subst ea_; subst ec_; clear en_) | (go_at_call 52; (with_reducible refine (laws_loIn.calls k2 _ _ (rd_L6 d a) J aT _ ?z_1 ?z_2 bx.out).mono ?_); (case z_1 => repeat (first | exact (by repeat (first | (with_reducible exact a5.out) | (with_reducible refine Kd.C_alloc ?_ _) | (with_reducible refine Kd.C_drewN ?_ _) | (with_reducible refine Kd.C_drew ?_) | exact a5.out)) | (with_reducible refine Kd.C_alloc ?_ _) | (with_reducible refine Kd.C_drewN ?_ _) | (with_reducible refine Kd.C_drew ?_))); (case z_2 => exact bJ.out); rintro e w' ⟨rfl, ⟨nd, rfl⟩⟩))
           go_roundg k2
           case measure => have := M.out; have := O.out; omega
           case rel => exact ⟨(aT), (wrap64 (a + 1)), rs_, rs_, H', ⟨by have := M.out; have := O.out; omega⟩, ⟨onS b⟩, ⟨onR I⟩, ⟨bkn i⟩, ⟨bn HB⟩⟩
          ·obtain rfl := nt_ aS; rw [if_neg nf_] at H; have H' := am H; clear H; obtain ⟨b7, b8, bK⟩ := Kd.S_slice b.out; subst bK; have q : 0 ≤ (a : Int) := oa; have s : a < (d.length : Int) := oa; obtain ⟨ae, aU, aV, af, P, T, U⟩ := at_L6 (Kd.S_reads' b.out).2.2 a q s; cases af; obtain ⟨aW, ag, ah, W⟩ := Kd.S_get b.out [] a q (by first | exact s | exact oa | (have e_ := (Kd.S_reads' b.out).1; omega)); obtain ⟨aX, rfl, B⟩ := ah; have m := W 0 _ rfl; rw [Nat.add_zero, show ((Kd.slice 3 (Kd.int .i64))).sz = 1 from rfl, Nat.mul_one] at m; replace m := Option.some.inj (m.symm.trans P); rw [m] at B; have aY := am (show Kd.R (Kd.int .i64) 3 _ _ _ _ (rd_L6 d a) from B); clear m B W ag; have aZ := am U; have a0 := am T; clear U T; obtain ⟨q, s⟩ := e2_ q s; have K : 0 ≤ (a : Int) := oa; have L : a < (d.length : Int) := oa; obtain ⟨aE, bA, bB, aF, ai, aj, ak⟩ := at_L6 (Kd.S_reads' b.out).2.2 a K L; obtain rfl : ae = aE := (by injection aF); obtain ⟨bC, aG, aH, al⟩ := Kd.S_get b.out [] a K (by first | exact L | exact oa | (have e_ := (Kd.S_reads' b.out).1; omega)); obtain ⟨bD, rfl, Z⟩ := aH; have D := al 0 _ rfl; rw [Nat.add_zero, show ((Kd.slice 3 (Kd.int .i64))).sz = 1 from rfl, Nat.mul_one] at D; replace D := Option.some.inj (D.symm.trans ai); rw [D] at Z; have bE := am (show Kd.R (Kd.int .i64) 3 _ _ _ _ (rd_L6 d a) from Z); clear D Z al aG; have an := am ak; have aI := am aj; clear ak aj; obtain ⟨K, L⟩ := e2_ K L; have ea_ := Option.some.inj (P.symm.trans ai); injection ea_ with ea_ en_ ec_
           subst ea_; subst ec_; clear en_
           go_wp2_with (first | (go_at_call 52; (with_reducible refine (laws_loIn.calls k2 _ _ (rd_L6 d a) E false _ ?z_1 ?z_2 aR.out).mono ?_); (case z_1 => repeat (first | exact (by repeat (first | (with_reducible exact an.out) | (with_reducible refine Kd.C_alloc ?_ _) | (with_reducible refine Kd.C_drewN ?_ _) | (with_reducible refine Kd.C_drew ?_) | exact an.out)) | (with_reducible refine Kd.C_alloc ?_ _) | (with_reducible refine Kd.C_drewN ?_ _) | (with_reducible refine Kd.C_drew ?_))); (case z_2 => exact aI.out); rintro e w' ⟨rfl, ⟨nd, rfl⟩⟩))
           go_roundg k2
           case measure => have := M.out; have := O.out; omega
           case rel => exact ⟨(false), (wrap64 (a + 1)), rs_, rs_, H', ⟨by have := M.out; have := O.out; omega⟩, ⟨onS b⟩, ⟨onR I⟩, ⟨bkn i⟩, ⟨bn HB⟩⟩
         ·rw [if_neg ad] at H; have bu := decide_eq_false ad; have bv : decide (2 < (rd_L6 d a).length) = false := decide_eq_false (by omega); clear ad; have H' := am H; clear H; obtain ⟨b9, ca, bL⟩ := Kd.S_slice b.out; subst bL; have q : 0 ≤ (a : Int) := oa; have s : a < (d.length : Int) := oa; obtain ⟨ae, aU, aV, af, P, T, U⟩ := at_L6 (Kd.S_reads' b.out).2.2 a q s; cases af; obtain ⟨aW, ag, ah, W⟩ := Kd.S_get b.out [] a q (by first | exact s | exact oa | (have e_ := (Kd.S_reads' b.out).1; omega)); obtain ⟨aX, rfl, B⟩ := ah; have m := W 0 _ rfl; rw [Nat.add_zero, show ((Kd.slice 3 (Kd.int .i64))).sz = 1 from rfl, Nat.mul_one] at m; replace m := Option.some.inj (m.symm.trans P); rw [m] at B; have aY := am (show Kd.R (Kd.int .i64) 3 _ _ _ _ (rd_L6 d a) from B); clear m B W ag; have aZ := am U; have a0 := am T; clear U T; obtain ⟨q, s⟩ := e2_ q s; go_wp2
          go_roundg k2
          case measure => have := M.out; have := O.out; omega
          case rel => exact ⟨(false), (wrap64 (a + 1)), rs_, rs_, H', ⟨by have := M.out; have := O.out; omega⟩, ⟨onS b⟩, ⟨onR I⟩, ⟨bkn i⟩, ⟨bn HB⟩⟩
       ·rw [if_neg ab] at H; have bp := decide_eq_false ab; clear ab; obtain rfl := Option.some.inj H; obtain ⟨cc, cd, bM⟩ := Kd.S_slice b.out; subst bM; go_wp2
        go_ret
        exact ⟨er_, bn HB⟩

/-- what is to be proved of laws_FnTwoBlock, without Go -/
def laws_FnTwoBlock.Pure : Prop := ∀ (l0 : List Int), (l0.length ≤ maxLen ∧ ∀ l0_ ∈ l0, ((Lit.int .u8 l0_).wf = true)) → ∃ k, laws_FnTwoBlock.f k l0 = some true

end Go.Proofs.Ythmddmobfkfgeaa.F
