-- By oprint.py.
import Derived.Test.YtikmhohgjmandaaF0
import Derived.Test.YtikmhohgjmandaaF24
import Derived.Test.YtikmhohgjmandaaF27
import Derived.Test.YtikmhohgjmandaaF28
import Derived.Test.YtikmhohgjmandaaXFlowS
import Derived.Test.YtikmhohgjmandaaXNetAdd
namespace Go.Proofs.Ytikmhohgjmandaa.F
open Go.RowKit Go.Proofs.YtikmhohgjmandaaW.PrintWords Go.Proofs.YtikmhohgjmandaaW.PrintLast Go.Proofs.YtikmhohgjmandaaW.PrintMore
attribute [local go_sem] max2_int min2_int max_two min_two max_three min_three max_four min_four
set_option linter.unusedVariables false
set_option linter.unusedSimpArgs false

/-! ### laws_FnFlowTie: function 5 -/
mutual
def laws_FnFlowTie.j0 : Nat → List Int → List Int → Bool → Option (Bool)
 | 0, _, _, _ => none
 | k + 1, x0, x1, x22 => if x22 = true then (some true) else ((spec_DrawFlowCount.f k x0).bind fun bt575 => ((spec_DrawNetAdd.f k x1).bind fun bt582 => ((impl_FlowCount.f k bt575.1 bt575.2.1 bt575.2.2.1 bt575.2.2.2).bind fun t589 => ((impl_NetAdd.f k bt575.1 bt575.2.1 bt582.2.2.1 bt582.2.2.2).bind fun bt590 => ((spec_FlowCount.f k bt575.1 bt575.2.1 bt575.2.2.1 bt575.2.2.2).bind fun t596 => (if t589 = t596 then (if t589 < 0 then (laws_FnFlowTie.j1 k bt575.2.2.1 bt575.2.2.2 t589 true bt575.1 bt575.2.1 bt590.1 bt590.2.1) else (laws_FnFlowTie.j1 k bt575.2.2.1 bt575.2.2.2 t589 (!bt590.2.2) bt575.1 bt575.2.1 bt590.1 bt590.2.1)) else (laws_FnFlowTie.j1 k bt575.2.2.1 bt575.2.2.2 t589 true bt575.1 bt575.2.1 bt590.1 bt590.2.1)))))))
def laws_FnFlowTie.j1 : Nat → Int → Int → Int → Bool → Int → List (S45) → Int → List (S45) → Option (Bool)
 | 0, _, _, _, _, _, _, _, _ => none
 | k + 1, x6, x7, x11, x59, x582000, x582001, x596000, x596001 => if x59 = true then ((spec_FlowCount.f k x582000 x582001 x6 x7).bind fun t597 => (some (x11 == t597))) else ((impl_FlowCount.f k x596000 x596001 x6 x7).bind fun t598 => (if t598 = x11 then (some true) else (some (t598 == (wrap64 (x11 + 1))))))
end
def laws_FnFlowTie.f (k : Nat) (l0 : List Int) (l1 : List Int) : Option (Bool) := if (l0.length : Int) > 1048576 then (laws_FnFlowTie.j0 k l0 l1 true) else (laws_FnFlowTie.j0 k l0 l1 (decide ((l1.length : Int) > 1048576)))
theorem laws_FnFlowTie.mono_l : ∀ k, (∀ a b c, LeO (laws_FnFlowTie.j0 k a b c) (laws_FnFlowTie.j0 (k + 1) a b c)) ∧ (∀ a b c d e f g i, LeO (laws_FnFlowTie.j1 k a b c d e f g i) (laws_FnFlowTie.j1 (k + 1) a b c d e f g i))
 | 0 => ⟨fun _ _ _ r h => by simp [laws_FnFlowTie.j0] at h, fun _ _ _ _ _ _ _ _ r h => by simp [laws_FnFlowTie.j1] at h⟩
 | k + 1 => by
  obtain ⟨ih0, ih1⟩ := laws_FnFlowTie.mono_l k; refine ⟨?_, ?_⟩
  ·intro a b c; unfold laws_FnFlowTie.j0; have j := @impl_FlowCount.mono; have l := @impl_NetAdd.mono; have m := @spec_DrawFlowCount.mono; have n := @spec_DrawNetAdd.mono; have o := @spec_FlowCount.mono; exact mo_
  ·intro a b c d e f g i; unfold laws_FnFlowTie.j1; have j := @impl_FlowCount.mono; have l := @impl_NetAdd.mono; have m := @spec_DrawFlowCount.mono; have n := @spec_DrawNetAdd.mono; have o := @spec_FlowCount.mono; exact mo_
theorem laws_FnFlowTie.mono : ∀ a b k, LeO (laws_FnFlowTie.f k a b) (laws_FnFlowTie.f (k + 1) a b) := by
 intro a b k; obtain ⟨ih0, ih1⟩ := laws_FnFlowTie.mono_l k; unfold laws_FnFlowTie.f; have m0_ := @impl_FlowCount.mono; have m1_ := @impl_NetAdd.mono; have m2_ := @spec_DrawFlowCount.mono; have m3_ := @spec_DrawNetAdd.mono; have m4_ := @spec_FlowCount.mono; exact mo_
set_option maxHeartbeats 8000000 in
set_option maxRecDepth 100000 in
theorem laws_FnFlowTie.calls (k : Nat) (A0 : Option Addr) (c0 : Nat) (p : List Int) (A1 : Option Addr) (c1 : Nat) (u : List Int) (r : Bool) (w : World) (ar : Kd.C (Kd.int .u8) w A0 p.length p) (au : p.length ≤ c0) (av : Kd.C (Kd.int .u8) w A1 u.length u) (aw : u.length ≤ c1) (hrt : Aside0 (r = true)) (h : laws_FnFlowTie.f k p u = some r) :
  Calls Try.prog 5 #[.slice A0 p.length c0, .slice A1 u.length c1] w fun e w' => e = .returned (.bool r) ∧ Below w.heap.size w w' := by
 have a1 := Try.underlying25; have aD := am ar; have aE := am au; clear ar au; have aF := am av; have aG := am aw; clear av aw; have HB := am (Below.refl w.heap.size w)
 have H : (if (p.length : Int) > 1048576 then (laws_FnFlowTie.j0 k p u true) else (laws_FnFlowTie.j0 k p u (decide ((u.length : Int) > 1048576)))) = some r := h
 clear h; have ag := am H; clear H; go_enter Try.func5, Try.ntmps5
 go_upto_region 1 with (fail)
 go_cut [22] (fun aH wc => ∃ (kq : Nat) (ae : Bool), aH = .bool ae ∧ Aside0 (laws_FnFlowTie.j0 kq p u ae = some r) ∧ Aside0 (kq ≤ k) ∧ Aside0 (Below w.heap.size w wc))
 case first =>
  have H := ag.out; clear ag; by_cases G : (p.length : Int) > 1048576
  ·rw [if_pos G] at H; have O := decide_eq_true G; have ah : decide (1048576 < p.length) = true := decide_eq_true (by omega); clear G; (first | rw [O] | (simp only [i64_w, i32_w]; rw [O]) | skip); have H' := am H; clear H; go_wp2
   go_meet
   case rel => exact ⟨_, (true), rs_, H', ⟨by first | omega | exact Nat.le_refl _⟩, ⟨bn HB⟩⟩
  ·rw [if_neg G] at H; have O := decide_eq_false G; have ah : decide (1048576 < p.length) = false := decide_eq_false (by omega); clear G; (first | rw [O] | (simp only [i64_w, i32_w]; rw [O]) | skip); have H' := am H; clear H; go_wp2
   go_meet
   case rel => exact ⟨_, (decide ((u.length : Int) > 1048576)), rs_, H', ⟨by first | omega | exact Nat.le_refl _⟩, ⟨bn HB⟩⟩
 case rest =>
  clear ag; (try clear c1 G O ah); obtain ⟨kq, ae, rfl, HA, ai, HB⟩ := hcut; cases kq with
  | zero => exact absurd HA.out (by simp [laws_FnFlowTie.j0])
  | succ kj2 =>
   have H := HA.out; clear HA; simp only [laws_FnFlowTie.j0] at H; by_cases c5 : ae = true
   ·subst c5; rw [if_pos rfl] at H; obtain rfl := Option.some.inj H; go_wp2
    go_ret
    exact ⟨er_, bn HB⟩
   ·obtain rfl := nt_ c5; rw [if_neg nf_] at H; obtain ⟨⟨o, g, l, m⟩, A6, H⟩ := bi_ H; (try dsimp only at H); obtain ⟨⟨ax, z, aj, ak⟩, A7, H⟩ := bi_ H; (try dsimp only at H); obtain ⟨t, A8, H⟩ := bi_ H; obtain ⟨⟨P, q, ay⟩, A9, H⟩ := bi_ H; (try dsimp only at H); have al := am H; clear H
    go_upto_region 7 with (first | ((with_reducible refine gate_callee (f := 16) rfl ?_); refine gl_ (some 25) Try.func16 #[.slice A0 p.length c0] ?_; (with_reducible refine (spec_DrawFlowCount.calls kj2 _ _ p o g l m _ ?z_1 ?z_2 A6.out).mono ?_); (case z_1 => exact cb aD HB); (case z_2 => exact aE.out); rintro e w11 ⟨a2, rfl, y, hb⟩; refine ⟨_, rfl, ?_⟩; have b := am (Kd.R_lower y (below_size (bn HB))); replace HB := bs HB hb; (try clear hb y)) | ((with_reducible refine gate_dst (N := 5) rfl ?_); refine bx_ 5 #[.int .i64 0, .slice none 0 0] 25 HB ?_; clear HB; intro aI hg w12 hb a a3 HB; replace b := am (Kd.R_below (onR b) hb); clear hb hg; have aJ := c2 a; obtain ⟨A, s, aK⟩ := Kd.R_slice b.out; subst aK) | ((with_reducible refine gate_callee (f := 17) rfl ?_); refine gl_ (some 31) Try.func17 #[.slice A1 u.length c1] ?_; (with_reducible refine (spec_DrawNetAdd.calls kj2 _ _ u ax z aj ak _ ?z_1 ?z_2 A7.out).mono ?_); (case z_1 => exact Kd.C_below aF.out (bn HB)); (case z_2 => exact aG.out); rintro e w15 ⟨a4, rfl, y, hb⟩; refine ⟨_, rfl, ?_⟩; have i := am (Kd.R_lower (Kd.R_new' y (Kd.R_lt (onR b))) (below_size (bn HB))); replace b := am (Kd.R_elder' (onR b) (Kd.R_base y) hb); replace a := bb a hb; replace HB := bs HB hb; (try clear hb y)) | ((with_reducible refine gate_dst (N := 8) rfl ?_); refine bx_ 8 #[.int .i64 0, .slice none 0 0] 25 HB ?_; clear HB; intro aL hg w16 hb d a5 HB; replace b := am (Kd.R_below (onR b) hb); replace i := am (Kd.R_below (onR i) hb); obtain ⟨ab, ad⟩ := nb_ hg a; replace a := bb a hb; clear hb hg; have a6 := n2 ad ab; have aM := c2 d; obtain ⟨I, J, aN⟩ := Kd.R_slice i.out; subst aN; have aO := c2 a) | ((with_reducible refine gate_callee (f := 14) rfl ?_); refine gl_ (some 38) Try.func14 #[.agg #[.int .i64 o, .slice A g.length s], .int .i64 l, .int .i64 m] ?_; (with_reducible refine (impl_FlowCount.calls kj2 o _ _ g l m t _ ?z_1 ?z_2 A8.out).mono ?_); (case z_1 => refine (Kd.R_reads' (e := 45) (base := w.heap.size) (ok := fun k_ => (True ∧ some k_ ≠ (.slice I z.length J : Value).ownBlock)) (n := g.length) (c := s) ?_).2.2; exact (onR b)); (case z_2 => exact (Kd.R_reads' b.out).2.1); rintro e w21 ⟨rfl, hb⟩; refine ⟨_, rfl, ?_⟩; replace b := am (Kd.R_below (onR b) hb); replace i := am (Kd.R_below (onR i) hb); replace a := bb a hb; replace d := bb d hb; replace HB := bs HB hb; (try clear hb); have aP := c2 a) | ((with_reducible refine gate_callee (f := 18) rfl ?_); refine gl_ (some 43) Try.func18 #[.agg #[.int .i64 o, .slice A g.length s], .int .i64 aj, .int .i64 ak] ?_; (with_reducible refine (impl_NetAdd.calls kj2 o _ _ g aj ak P q ay _ ?z_1 ?z_2 A9.out).mono ?_); (case z_1 => exact (Kd.R_reads' (onR b)).2.2); (case z_2 => exact (Kd.R_reads' b.out).2.1); rintro e w23 ⟨a7, rfl, y, hb⟩; refine ⟨_, rfl, ?_⟩; have x := am (Kd.R_lower (Kd.R_new' (Kd.R_new' y (Kd.R_lt (onR b))) (Kd.R_lt (onR i))) (below_size (bn HB))); replace b := am (Kd.R_elder' (onR b) (Kd.R_base y) hb); replace i := am (Kd.R_elder' (onR i) (Kd.R_base y) hb); replace a := bb a hb; replace d := bb d hb; replace HB := bs HB hb; (try clear hb y)) | ((with_reducible refine gate_dst (N := 12) rfl ?_); refine bx_ 12 #[.int .i64 0, .slice none 0 0] 25 HB ?_; clear HB; intro aQ hg w24 hb j a8 HB; replace b := am (Kd.R_below (onR b) hb); replace i := am (Kd.R_below (onR i) hb); replace x := am (Kd.R_below (onR x) hb); obtain ⟨T, U⟩ := nb_ hg a; replace a := bb a hb; obtain ⟨an, ap⟩ := nb_ hg d; replace d := bb d hb; clear hb hg; have a9 := n2 U T; have ba := n2 ap an; have aR := c2 j; obtain ⟨D, E, aS⟩ := Kd.R_slice x.out; subst aS))
    (try simp only [Act.put, List.setIfInBounds_toArray, List.set_cons_zero, List.set_cons_succ])
    go_cut [59] (fun aT wc => ∃ (kq : Nat) (af : Bool), aT = .bool af ∧ Aside0 (laws_FnFlowTie.j1 kq l m t af o g P q = some r) ∧ Aside0 (kq ≤ kj2) ∧ Aside0 (Kd.R k45 45 wc w.heap.size (fun k_ => some k_ ≠ ((.slice I z.length J) : Value).ownBlock ∧ some k_ ≠ ((.slice D q.length E) : Value).ownBlock) (.slice A g.length s) g) ∧ Aside0 (Kd.R k45 45 wc w.heap.size (fun k_ => some k_ ≠ ((.slice A g.length s) : Value).ownBlock ∧ some k_ ≠ ((.slice D q.length E) : Value).ownBlock) (.slice I z.length J) z) ∧ Aside0 (Kd.R k45 45 wc w.heap.size (fun k_ => some k_ ≠ ((.slice A g.length s) : Value).ownBlock ∧ some k_ ≠ ((.slice I z.length J) : Value).ownBlock) (.slice D q.length E) q) ∧ Bk wc aI (.cells #[.int .i64 o, (.slice A g.length s)] 25 (0, 0)) ∧ Bk wc aL (.cells #[.int .i64 ax, (.slice I z.length J)] 25 (0, 0)) ∧ Bk wc aQ (.cells #[.int .i64 P, (.slice D q.length E)] 25 (0, 0)) ∧ Aside0 (Below w.heap.size w wc))
    case first =>
     have H := al.out; clear al; obtain ⟨K, aq, H⟩ := bi_ H; by_cases L : t = K
     ·rw [if_pos L] at H; have Z : (t == K) = true := beq_iff_eq.mpr L; have az : (t != K) = false := bne_eq_false_iff_eq.mpr L; clear L; (first | rw [Z] | (simp only [i64_w, i32_w]; rw [Z]) | skip); by_cases W : t < 0
      ·rw [if_pos W] at H; have aA := decide_eq_true W; clear W; have H' := am H; clear H; have bd := n2 ab ad; have bf := n2 T U; have aU := c2 a
       go_wp2_with (first | ((with_reducible refine gate_callee (f := 19) rfl ?_); refine gl_ (some 50) Try.func19 #[.agg #[.int .i64 o, .slice A g.length s], .int .i64 l, .int .i64 m] ?_; (with_reducible refine (spec_FlowCount.calls kj2 o _ _ g l m K _ ?z_1 ?z_2 aq.out).mono ?_); (case z_1 => refine (Kd.R_reads' (e := 45) (base := w.heap.size) (ok := fun k_ => ((True ∧ some k_ ≠ (.slice I z.length J : Value).ownBlock) ∧ some k_ ≠ (.slice D q.length E : Value).ownBlock)) (n := g.length) (c := s) ?_).2.2; exact (onR b)); (case z_2 => exact (Kd.R_reads' b.out).2.1); rintro e w35 ⟨rfl, hb⟩; refine ⟨_, rfl, ?_⟩; replace b := am (Kd.R_below (onR b) hb); replace i := am (Kd.R_below (onR i) hb); replace x := am (Kd.R_below (onR x) hb); replace a := bb a hb; replace d := bb d hb; replace j := bb j hb; replace HB := bs HB hb; (try clear hb)))
       go_meet
       case rel => exact ⟨_, (true), rs_, H', ⟨by have := ai.out; first | omega | exact Nat.le_refl _⟩, ⟨Kd.R_mono (onR b) (fun _ hk => ⟨hk.1.2, hk.2⟩)⟩, ⟨Kd.R_mono (onR i) (fun _ hk => ⟨hk.1.2, hk.2⟩)⟩, ⟨Kd.R_mono (onR x) (fun _ hk => ⟨hk.1.2, hk.2⟩)⟩, ⟨bkn a⟩, ⟨bkn d⟩, ⟨bkn j⟩, ⟨bn HB⟩⟩
      ·rw [if_neg W] at H; have aA := decide_eq_false W; clear W; have H' := am H; clear H; have bg := n2 ab ad; have bh := n2 T U; have aV := c2 a
       go_wp2_with (first | ((with_reducible refine gate_callee (f := 19) rfl ?_); refine gl_ (some 50) Try.func19 #[.agg #[.int .i64 o, .slice A g.length s], .int .i64 l, .int .i64 m] ?_; (with_reducible refine (spec_FlowCount.calls kj2 o _ _ g l m K _ ?z_1 ?z_2 aq.out).mono ?_); (case z_1 => refine (Kd.R_reads' (e := 45) (base := w.heap.size) (ok := fun k_ => ((True ∧ some k_ ≠ (.slice I z.length J : Value).ownBlock) ∧ some k_ ≠ (.slice D q.length E : Value).ownBlock)) (n := g.length) (c := s) ?_).2.2; exact (onR b)); (case z_2 => exact (Kd.R_reads' b.out).2.1); rintro e w39 ⟨rfl, hb⟩; refine ⟨_, rfl, ?_⟩; replace b := am (Kd.R_below (onR b) hb); replace i := am (Kd.R_below (onR i) hb); replace x := am (Kd.R_below (onR x) hb); replace a := bb a hb; replace d := bb d hb; replace j := bb j hb; replace HB := bs HB hb; (try clear hb)))
       go_meet
       case rel => exact ⟨_, (!ay), rs_, H', ⟨by have := ai.out; first | omega | exact Nat.le_refl _⟩, ⟨Kd.R_mono (onR b) (fun _ hk => ⟨hk.1.2, hk.2⟩)⟩, ⟨Kd.R_mono (onR i) (fun _ hk => ⟨hk.1.2, hk.2⟩)⟩, ⟨Kd.R_mono (onR x) (fun _ hk => ⟨hk.1.2, hk.2⟩)⟩, ⟨bkn a⟩, ⟨bkn d⟩, ⟨bkn j⟩, ⟨bn HB⟩⟩
     ·rw [if_neg L] at H; have Z : (t == K) = false := beq_eq_false_iff_ne.mpr L; have az : (t != K) = true := bne_iff_ne.mpr L; (first | rw [Z] | (simp only [i64_w, i32_w]; rw [Z]) | skip); have H' := am H; clear H; have bi := n2 ab ad; have bj := n2 T U; have aW := c2 a
      go_wp2_with (first | ((with_reducible refine gate_callee (f := 19) rfl ?_); refine gl_ (some 50) Try.func19 #[.agg #[.int .i64 o, .slice A g.length s], .int .i64 l, .int .i64 m] ?_; (with_reducible refine (spec_FlowCount.calls kj2 o _ _ g l m K _ ?z_1 ?z_2 aq.out).mono ?_); (case z_1 => refine (Kd.R_reads' (e := 45) (base := w.heap.size) (ok := fun k_ => ((True ∧ some k_ ≠ (.slice I z.length J : Value).ownBlock) ∧ some k_ ≠ (.slice D q.length E : Value).ownBlock)) (n := g.length) (c := s) ?_).2.2; exact (onR b)); (case z_2 => exact (Kd.R_reads' b.out).2.1); rintro e w43 ⟨rfl, hb⟩; refine ⟨_, rfl, ?_⟩; replace b := am (Kd.R_below (onR b) hb); replace i := am (Kd.R_below (onR i) hb); replace x := am (Kd.R_below (onR x) hb); replace a := bb a hb; replace d := bb d hb; replace j := bb j hb; replace HB := bs HB hb; (try clear hb)))
      go_meet
      case rel => exact ⟨_, (true), rs_, H', ⟨by have := ai.out; first | omega | exact Nat.le_refl _⟩, ⟨Kd.R_mono (onR b) (fun _ hk => ⟨hk.1.2, hk.2⟩)⟩, ⟨Kd.R_mono (onR i) (fun _ hk => ⟨hk.1.2, hk.2⟩)⟩, ⟨Kd.R_mono (onR x) (fun _ hk => ⟨hk.1.2, hk.2⟩)⟩, ⟨bkn a⟩, ⟨bkn d⟩, ⟨bkn j⟩, ⟨bn HB⟩⟩
    case rest =>
     clear al; (try clear c1 c2 G O ah c5 L Z az W aA aJ aM aO aP aR aU aV aW); obtain ⟨kq, af, rfl, HA, HJ9, M, aa, B, a, d, j, HB⟩ := hcut; cases kq with
     | zero => exact absurd HA.out (by simp [laws_FnFlowTie.j1])
     | succ kj9 =>
      have H := HA.out; clear HA; simp only [laws_FnFlowTie.j1] at H; by_cases aB : af = true
      ·subst aB; rw [if_pos rfl] at H; obtain ⟨aX, aY, H⟩ := bi_ H; obtain rfl := Option.some.inj H; have bk := n2 ab ad; have bl := n2 T U; have bo := c2 a
       go_wp2_with (first | ((with_reducible refine gate_callee (f := 19) rfl ?_); refine gl_ (some 64) Try.func19 #[.agg #[.int .i64 o, .slice A g.length s], .int .i64 l, .int .i64 m] ?_; (with_reducible refine (spec_FlowCount.calls kj9 o _ _ g l m aX _ ?z_1 ?z_2 aY.out).mono ?_); (case z_1 => exact (Kd.R_reads' (onR M)).2.2); (case z_2 => exact (Kd.R_reads' M.out).2.1); rintro e w49 ⟨rfl, hb⟩; refine ⟨_, rfl, ?_⟩; replace M := am (Kd.R_below (onR M) hb); replace aa := am (Kd.R_below (onR aa) hb); replace B := am (Kd.R_below (onR B) hb); replace a := bb a hb; replace d := bb d hb; replace j := bb j hb; replace HB := bs HB hb; (try clear hb)))
       go_ret
       exact ⟨er_, bn HB⟩
      ·obtain rfl := nt_ aB; rw [if_neg nf_] at H; obtain ⟨X, aC, H⟩ := bi_ H; by_cases Y : X = t
       ·rw [if_pos Y] at H; have aZ : (X == t) = true := beq_iff_eq.mpr Y; have a0 : (X != t) = false := bne_eq_false_iff_eq.mpr Y; clear Y; obtain rfl := Option.some.inj H; have bp := n2 U T; have br := n2 ap an; have bu := c2 j
        go_wp2_with (first | ((with_reducible refine gate_callee (f := 14) rfl ?_); refine gl_ (some 69) Try.func14 #[.agg #[.int .i64 P, .slice D q.length E], .int .i64 l, .int .i64 m] ?_; (with_reducible refine (impl_FlowCount.calls kj9 P _ _ q l m X _ ?z_1 ?z_2 aC.out).mono ?_); (case z_1 => exact (Kd.R_reads' (onR B)).2.2); (case z_2 => exact (Kd.R_reads' B.out).2.1); rintro e w55 ⟨rfl, hb⟩; refine ⟨_, rfl, ?_⟩; replace M := am (Kd.R_below (onR M) hb); replace aa := am (Kd.R_below (onR aa) hb); replace B := am (Kd.R_below (onR B) hb); replace a := bb a hb; replace d := bb d hb; replace j := bb j hb; replace HB := bs HB hb; (try clear hb)))
        go_ret
        exact ⟨er_, bn HB⟩
       ·rw [if_neg Y] at H; have aZ : (X == t) = false := beq_eq_false_iff_ne.mpr Y; have a0 : (X != t) = true := bne_iff_ne.mpr Y; obtain rfl := Option.some.inj H; have bv := n2 U T; have bw := n2 ap an; have bx := c2 j
        go_wp2_with (first | ((with_reducible refine gate_callee (f := 14) rfl ?_); refine gl_ (some 69) Try.func14 #[.agg #[.int .i64 P, .slice D q.length E], .int .i64 l, .int .i64 m] ?_; (with_reducible refine (impl_FlowCount.calls kj9 P _ _ q l m X _ ?z_1 ?z_2 aC.out).mono ?_); (case z_1 => exact (Kd.R_reads' (onR B)).2.2); (case z_2 => exact (Kd.R_reads' B.out).2.1); rintro e w59 ⟨rfl, hb⟩; refine ⟨_, rfl, ?_⟩; replace M := am (Kd.R_below (onR M) hb); replace aa := am (Kd.R_below (onR aa) hb); replace B := am (Kd.R_below (onR B) hb); replace a := bb a hb; replace d := bb d hb; replace j := bb j hb; replace HB := bs HB hb; (try clear hb)))
        go_ret
        exact ⟨er_, bn HB⟩

/-- what is to be proved of laws_FnFlowTie, without Go -/
def laws_FnFlowTie.Pure : Prop := ∀ (l0 : List Int) (l1 : List Int), (l0.length ≤ maxLen ∧ ∀ l0_ ∈ l0, ((Lit.int .u8 l0_).wf = true)) → (l1.length ≤ maxLen ∧ ∀ l1_ ∈ l1, ((Lit.int .u8 l1_).wf = true)) → ∃ k, laws_FnFlowTie.f k l0 l1 = some true

end Go.Proofs.Ytikmhohgjmandaa.F
