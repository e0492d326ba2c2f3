-- By oprint.py.
import Derived.Test.YtdlnnjgjfngccaaF0
import Derived.Test.YtdlnnjgjfngccaaF35
import Derived.Test.YtdlnnjgjfngccaaF38
import Derived.Test.YtdlnnjgjfngccaaF51
import Derived.Test.YtdlnnjgjfngccaaF93
import Derived.Test.YtdlnnjgjfngccaaF94
namespace Go.Proofs.Ytdlnnjgjfngccaa.F
open Go.RowKit Go.Proofs.YtdlnnjgjfngccaaW.PrintWords Go.Proofs.YtdlnnjgjfngccaaW.PrintLast Go.Proofs.YtdlnnjgjfngccaaW.PrintMore
attribute [local go_sem] max2_int min2_int max_two min_two max_three min_three max_four min_four
set_option linter.unusedVariables false
set_option linter.unusedSimpArgs false

/-! ### laws_FnFlowParts: function 24 -/
def laws_FnFlowParts.j0 : Nat → Int → Int → List (S73) → Bool → Bool → Int → List (S73) → Option (Bool)
 | 0, _, _, _, _, _, _, _ => none
 | k + 1, x4, x5, x6, x7, x35, x1630000, x1630001 => if x35 = true then ((spec_FlowParts.f k x1630000 x1630001 x4 x5 x6).bind fun t1632 => (some (x7 == t1632))) else ((impl_FlowCut.f k x1630000 x1630001 x4 x5).bind fun bt1633 => (if bt1633.2 = true then (if (bt1633.1.length : Int) ≤ (x6.length : Int) then (if (bt1633.1.length : Int) = (x6.length : Int) then ((laws_loLess.f k x6 bt1633.1).bind fun t1637 => (some (!t1637))) else (some (!false))) else (some false)) else (some false)))
def laws_FnFlowParts.f (k : Nat) (l0 : List Int) : Option (Bool) := if (l0.length : Int) > 1048576 then (some true) else ((spec_DrawFlowParts.f k l0).bind fun bt1620 => ((impl_FlowParts.f k bt1620.1 bt1620.2.1 bt1620.2.2.1 bt1620.2.2.2.1 bt1620.2.2.2.2).bind fun t1630 => ((spec_FlowParts.f k bt1620.1 bt1620.2.1 bt1620.2.2.1 bt1620.2.2.2.1 bt1620.2.2.2.2).bind fun t1631 => (if (t1630 != t1631) = true then (laws_FnFlowParts.j0 k bt1620.2.2.1 bt1620.2.2.2.1 bt1620.2.2.2.2 t1630 true bt1620.1 bt1620.2.1) else (laws_FnFlowParts.j0 k bt1620.2.2.1 bt1620.2.2.2.1 bt1620.2.2.2.2 t1630 (!t1630) bt1620.1 bt1620.2.1)))))
theorem laws_FnFlowParts.mono_l : ∀ k, (∀ a b c d e f g, LeO (laws_FnFlowParts.j0 k a b c d e f g) (laws_FnFlowParts.j0 (k + 1) a b c d e f g))
 | 0 => fun _ _ _ _ _ _ _ r h => by simp [laws_FnFlowParts.j0] at h
 | k + 1 => by
  have ih0 := laws_FnFlowParts.mono_l k
  ·intro a b c d e f g; unfold laws_FnFlowParts.j0; have m0_ := @impl_FlowCut.mono; have m1_ := @impl_FlowParts.mono; have m2_ := @laws_loLess.mono; have m3_ := @spec_DrawFlowParts.mono; have m4_ := @spec_FlowParts.mono; exact mo_
theorem laws_FnFlowParts.mono : ∀ a k, LeO (laws_FnFlowParts.f k a) (laws_FnFlowParts.f (k + 1) a) := by
 intro a k; have ih0 := laws_FnFlowParts.mono_l k; unfold laws_FnFlowParts.f; have m0_ := @impl_FlowCut.mono; have m1_ := @impl_FlowParts.mono; have m2_ := @laws_loLess.mono; have m3_ := @spec_DrawFlowParts.mono; have m4_ := @spec_FlowParts.mono; exact mo_
set_option maxHeartbeats 8000000 in
set_option maxRecDepth 100000 in
theorem laws_FnFlowParts.calls (k : Nat) (P : Option Addr) (T : Nat) (t : List Int) (r : Bool) (w : World) (W : Kd.C (Kd.int .u8) w P t.length t) (X : t.length ≤ T) (hrt : Aside0 (r = true)) (h : laws_FnFlowParts.f k t = some r) :
  Calls Try.prog 24 #[.slice P t.length T] w fun e w' => e = .returned (.bool r) ∧ Below w.heap.size w w' := by
 have hu34 := Try.underlying34; have ag := am W; have ah := am X; clear W X; have HB := am (Below.refl w.heap.size w)
 have H : (if (t.length : Int) > 1048576 then (some true) else ((spec_DrawFlowParts.f k t).bind fun g => ((impl_FlowParts.f k g.1 g.2.1 g.2.2.1 g.2.2.2.1 g.2.2.2.2).bind fun l => ((spec_FlowParts.f k g.1 g.2.1 g.2.2.1 g.2.2.2.1 g.2.2.2.2).bind fun u => (if (l != u) = true then (laws_FnFlowParts.j0 k g.2.2.1 g.2.2.2.1 g.2.2.2.2 l true g.1 g.2.1) else (laws_FnFlowParts.j0 k g.2.2.1 g.2.2.2.1 g.2.2.2.2 l (!l) g.1 g.2.1)))))) = some r := h
 clear h; by_cases c2 : (t.length : Int) > 1048576
 ·rw [if_pos c2] at H; have Y := decide_eq_true c2; have Z : decide (1048576 < t.length) = true := decide_eq_true (by omega); clear c2; obtain rfl := Option.some.inj H; go_enter Try.func24, Try.ntmps24; go_wp2
  go_ret
  exact ⟨er_, bn HB⟩
 ·rw [if_neg c2] at H; have Y := decide_eq_false c2; have Z : decide (1048576 < t.length) = false := decide_eq_false (by omega); clear c2; replace H := bi_ H; obtain ⟨⟨m, d, o, p, a⟩, A3, H⟩ := H; (try dsimp only at H); replace H := bi_ H; obtain ⟨l, A4, H⟩ := H; (try dsimp only at H); have U := am H; clear H; go_enter Try.func24, Try.ntmps24
  go_upto_region 5 with (first | ((with_reducible refine gate_callee (f := 83) rfl ?_); refine gl_ (some 15) Try.func83 #[.slice P t.length T] ?_; (with_reducible refine (spec_DrawFlowParts.calls k _ _ t m d o p a _ ?z_1 ?z_2 A3.out).mono ?_); (case z_1 => repeat (first | exact ag.out | (with_reducible refine Kd.C_alloc ?_ _) | (with_reducible refine Kd.C_drewN ?_ _) | (with_reducible refine Kd.C_drew ?_))); (case z_2 => exact ah.out); rintro e w6 ⟨v1622, v1627, rfl, x, aa, hb⟩; refine ⟨_, rfl, ?_⟩; have i := am (Kd.R_lower x (below_size (bn HB))); have j := am (Kd.Q_lower aa (below_size (bn HB))); replace HB := bs HB hb; (try clear hb); (try clear x); (try clear aa)) | ((with_reducible refine gate_dst (N := 3) rfl ?_); refine bx_ 3 #[.int .i64 0, .slice none 0 0] 34 HB ?_; clear HB; intro gb1629 hg w7 hb b GW1629 HB; replace i := am (Kd.R_below (onR i) hb); replace j := am (Kd.Q_below (onQ j) hb); clear hb hg; have hcz8 := c2 b; obtain ⟨y, q, eo9⟩ := Kd.R_slice i.out; subst eo9; obtain ⟨I, E, eo10, _⟩ := Kd.Q_slice j.out; subst eo10) | ((with_reducible refine gate_callee (f := 46) rfl ?_); refine gl_ (some 24) Try.func46 #[.agg #[.int .i64 m, .slice y d.length q], .int .i64 o, .int .i64 p, .slice I a.length E] ?_; (with_reducible refine (impl_FlowParts.calls k m _ _ d o p _ _ a l _ ?z_1 ?z_2 ?z_3 ?z_4 A4.out).mono ?_); (case z_1 => refine (Kd.R_reads' (e := 73) (base := w.heap.size) (ok := fun k_ => some k_ ≠ (.slice I a.length E : Value).ownBlock) (n := d.length) (c := q) ?_).2.2; exact (onR i)); (case z_2 => exact (Kd.R_reads' i.out).2.1); (case z_3 => refine (Kd.Q_reads' (e := 73) (base := w.heap.size) (ok := fun k_ => some k_ ≠ (.slice y d.length q : Value).ownBlock) (n := a.length) (c := E) ?_).2.2; exact (onQ j)); (case z_4 => exact (Kd.Q_reads' j.out).2.1); rintro e w11 ⟨rfl, hb⟩; refine ⟨_, rfl, ?_⟩; replace i := am (Kd.R_below (onR i) hb); replace j := am (Kd.Q_below (onQ j) hb); replace b := bb b hb; replace HB := bs HB hb; (try clear hb); (try clear hi)))
  (try simp only [Act.put, List.setIfInBounds_toArray, List.set_cons_zero, List.set_cons_succ])
  go_cut [35] (fun v35 wc => ∃ (kq : Nat) (L : Bool), v35 = .bool L ∧ Aside0 (laws_FnFlowParts.j0 kq o p a l L m d = some r) ∧ Aside0 (kq ≤ k) ∧ Aside0 (Kd.Q k73 73 wc w.heap.size (fun k_ => some k_ ≠ ((.slice y d.length q) : Value).ownBlock) (.slice I a.length E) a) ∧ Aside0 (Kd.R k73 73 wc w.heap.size (fun k_ => some k_ ≠ ((.slice I a.length E) : Value).ownBlock) (.slice y d.length q) d) ∧ Bk wc gb1629 (.cells #[.int .i64 m, (.slice y d.length q)] 34 (0, 0)) ∧ Aside0 (Below w.heap.size w wc))
  case first =>
   have H := U.out; clear U; replace H := bi_ H; obtain ⟨u, ab, H⟩ := H; (try dsimp only at H); by_cases z : (l != u) = true
   ·rw [if_pos z] at H; have J : (l != u) = true := z; (try (have ad : decide (l = u) = false := by simpa using z)); (try (have ae : (l == u) = false := by simpa using z)); (try (have c13b3 : ¬ (l = u) := by simpa using z)); clear z; (first | rw [J] | (simp only [i64_w, i32_w]; rw [J]) | skip); have H' := am H; clear H; have hcz14 := c2 b
    go_wp2_with (first | ((with_reducible refine gate_callee (f := 44) rfl ?_); refine gl_ (some 30) Try.func44 #[.agg #[.int .i64 m, .slice y d.length q], .int .i64 o, .int .i64 p, .slice I a.length E] ?_; (with_reducible refine (spec_FlowParts.calls k m _ _ d o p _ _ a u _ ?z_1 ?z_2 ?z_3 ?z_4 ab.out).mono ?_); (case z_1 => exact (Kd.R_reads' (onR i)).2.2); (case z_2 => exact (Kd.R_reads' i.out).2.1); (case z_3 => exact (Kd.Q_reads' (onQ j)).2.2); (case z_4 => exact (Kd.Q_reads' j.out).2.1); rintro e w15 ⟨rfl, hb⟩; refine ⟨_, rfl, ?_⟩; replace i := am (Kd.R_below (onR i) hb); replace j := am (Kd.Q_below (onQ j) hb); replace b := bb b hb; replace HB := bs HB hb; (try clear hb); (try clear hi)))
    go_meet
    case rel => exact ⟨_, (true), rs_, H', ⟨by first | omega | exact Nat.le_refl _⟩, ⟨onQ j⟩, ⟨onR i⟩, ⟨bkn b⟩, ⟨bn HB⟩⟩
   ·rw [if_neg z] at H; have J : (l != u) = false := by simpa using z
    (try (have ad : decide (l = u) = true := by simpa using z)); (try (have ae : (l == u) = true := by simpa using z)); clear z; (first | rw [J] | (simp only [i64_w, i32_w]; rw [J]) | skip); have H' := am H; clear H; have hcz16 := c2 b
    go_wp2_with (first | ((with_reducible refine gate_callee (f := 44) rfl ?_); refine gl_ (some 30) Try.func44 #[.agg #[.int .i64 m, .slice y d.length q], .int .i64 o, .int .i64 p, .slice I a.length E] ?_; (with_reducible refine (spec_FlowParts.calls k m _ _ d o p _ _ a u _ ?z_1 ?z_2 ?z_3 ?z_4 ab.out).mono ?_); (case z_1 => exact (Kd.R_reads' (onR i)).2.2); (case z_2 => exact (Kd.R_reads' i.out).2.1); (case z_3 => exact (Kd.Q_reads' (onQ j)).2.2); (case z_4 => exact (Kd.Q_reads' j.out).2.1); rintro e w17 ⟨rfl, hb⟩; refine ⟨_, rfl, ?_⟩; replace i := am (Kd.R_below (onR i) hb); replace j := am (Kd.Q_below (onQ j) hb); replace b := bb b hb; replace HB := bs HB hb; (try clear hb); (try clear hi)))
    go_meet
    case rel => exact ⟨_, (!l), rs_, H', ⟨by first | omega | exact Nat.le_refl _⟩, ⟨onQ j⟩, ⟨onR i⟩, ⟨bkn b⟩, ⟨bn HB⟩⟩
  case rest =>
   clear U; (try clear c1); (try clear c2); (try clear Y); (try clear Z); (try clear p2); (try clear c4); (try clear c8); (try clear z); (try clear J); (try clear ad); (try clear ae); (try clear hcz14); (try clear hcz16); (try clear hcz8); obtain ⟨kq, L, rfl, HA, HJ4, A, B, b, HB⟩ := hcut; cases kq with
   | zero => exact absurd HA.out (by simp [laws_FnFlowParts.j0])
   | succ kj4 =>
    have H := HA.out; clear HA; simp only [laws_FnFlowParts.j0] at H; by_cases M : L = true
    ·subst M; rw [if_pos rfl] at H; replace H := bi_ H; obtain ⟨t1632, A19, H⟩ := H; (try dsimp only at H); obtain rfl := Option.some.inj H; have hcz20 := c2 b
     go_wp2_with (first | ((with_reducible refine gate_callee (f := 44) rfl ?_); refine gl_ (some 41) Try.func44 #[.agg #[.int .i64 m, .slice y d.length q], .int .i64 o, .int .i64 p, .slice I a.length E] ?_; (with_reducible refine (spec_FlowParts.calls kj4 m _ _ d o p _ _ a t1632 _ ?z_1 ?z_2 ?z_3 ?z_4 A19.out).mono ?_); (case z_1 => exact (Kd.R_reads' (onR B)).2.2); (case z_2 => exact (Kd.R_reads' B.out).2.1); (case z_3 => exact (Kd.Q_reads' (onQ A)).2.2); (case z_4 => exact (Kd.Q_reads' A.out).2.1); rintro e w21 ⟨rfl, hb⟩; refine ⟨_, rfl, ?_⟩; replace A := am (Kd.Q_below (onQ A) hb); replace B := am (Kd.R_below (onR B) hb); replace b := bb b hb; replace HB := bs HB hb; (try clear hb); (try clear hi)))
     go_ret
     exact ⟨er_, bn HB⟩
    ·replace M := Bool.eq_false_iff.mpr M; subst M; rw [if_neg (show ¬ (false = true) by decide)] at H; replace H := bi_ H; obtain ⟨⟨s, t1636⟩, af, H⟩ := H; (try dsimp only at H); by_cases O : t1636 = true
     ·subst O; rw [if_pos rfl] at H; by_cases G : (s.length : Int) ≤ (a.length : Int)
      ·rw [if_pos G] at H; have c24b0 := decide_eq_true G; have c24b1 : decide (s.length ≤ a.length) = true := decide_eq_true (Int.ofNat_le.mp G); clear G; by_cases D : (s.length : Int) = (a.length : Int)
       ·rw [if_pos D] at H; have c25b0 : ((s.length : Int) == (a.length : Int)) = true := beq_iff_eq.mpr D; have c25b1 : ((s.length : Int) != (a.length : Int)) = false := bne_eq_false_iff_eq.mpr D; have c25b2 : (s.length == a.length) = true := by first | simpa using D | (simp at D ⊢; omega)
        clear D; replace H := bi_ H; obtain ⟨t1637, A26, H⟩ := H; (try dsimp only at H); obtain rfl := Option.some.inj H; have hcz27 := c2 b
        go_wp2_with (first | ((with_reducible refine gate_callee (f := 51) rfl ?_); refine gl_ (some 47) Try.func51 #[.agg #[.int .i64 m, .slice y d.length q], .int .i64 o, .int .i64 p] ?_; (with_reducible refine (impl_FlowCut.calls kj4 m (fun k_ => some k_ = (.slice y d.length q : Value).ownBlock) _ _ d o p s true _ ?z_1 af.out).mono ?_); (case z_1 => exact Kd.R_V (Kd.R_tight rfl (Kd.R_types (B.out) b.out (by decide)))); rintro e w28 ⟨v1634, rfl, x, hb⟩; refine ⟨_, rfl, ?_⟩; have K := am (Kd.R_lower (Kd.R_new' (Kd.R_new' (Kd.R_mono (ok' := fun k_ => True) x (fun _ hk_ => trivial)) (Kd.Q_lt (onQ A))) (Kd.R_lt (onR B))) (below_size (bn HB))); replace A := am (Kd.Q_elder' (onQ A) (Kd.R_base x) hb); replace B := am (Kd.R_elder' (onR B) (Kd.R_base x) hb); replace b := bb b hb; replace HB := bs HB hb; (try clear hb); (try clear x); obtain ⟨Ao29, co29, eo29⟩ := Kd.R_slice K.out; subst eo29) | (go_at_call 84; (with_reducible refine (laws_loLess.calls kj4 _ _ a _ _ s t1637 _ ?z_1 ?z_2 ?z_3 ?z_4 A26.out).mono ?_); (case z_1 => exact (Kd.Q_reads' (onQ A)).2.2); (case z_2 => exact (Kd.Q_reads' A.out).2.1); (case z_3 => exact (Kd.R_reads' (onR K)).2.2); (case z_4 => exact (Kd.R_reads' K.out).2.1); rintro e w' ⟨rfl, ⟨nd, rfl⟩⟩))
        go_ret
        exact ⟨er_, bn HB⟩
       ·rw [if_neg D] at H; have c25b0 : ((s.length : Int) == (a.length : Int)) = false := beq_eq_false_iff_ne.mpr D; have c25b1 : ((s.length : Int) != (a.length : Int)) = true := bne_iff_ne.mpr D; have c25b2 : (s.length == a.length) = false := by first | simpa using D | (simp at D ⊢; omega)
        obtain rfl := Option.some.inj H; have hcz30 := c2 b
        go_wp2_with (first | ((with_reducible refine gate_callee (f := 51) rfl ?_); refine gl_ (some 47) Try.func51 #[.agg #[.int .i64 m, .slice y d.length q], .int .i64 o, .int .i64 p] ?_; (with_reducible refine (impl_FlowCut.calls kj4 m (fun k_ => some k_ = (.slice y d.length q : Value).ownBlock) _ _ d o p s true _ ?z_1 af.out).mono ?_); (case z_1 => exact Kd.R_V (Kd.R_tight rfl (Kd.R_types (B.out) b.out (by decide)))); rintro e w31 ⟨v1634, rfl, x, hb⟩; refine ⟨_, rfl, ?_⟩; have K := am (Kd.R_lower (Kd.R_new' (Kd.R_new' (Kd.R_mono (ok' := fun k_ => True) x (fun _ hk_ => trivial)) (Kd.Q_lt (onQ A))) (Kd.R_lt (onR B))) (below_size (bn HB))); replace A := am (Kd.Q_elder' (onQ A) (Kd.R_base x) hb); replace B := am (Kd.R_elder' (onR B) (Kd.R_base x) hb); replace b := bb b hb; replace HB := bs HB hb; (try clear hb); (try clear x); obtain ⟨Ao32, co32, eo32⟩ := Kd.R_slice K.out; subst eo32))
        go_ret
        exact ⟨er_, bn HB⟩
      ·rw [if_neg G] at H; have c24b0 := decide_eq_false G; have c24b1 : decide (s.length ≤ a.length) = false := decide_eq_false (fun h => G (Int.ofNat_le.mpr h)); clear G; exact absurd (Option.some.inj H) (by rw [hrt.out]; decide)
     ·replace O := Bool.eq_false_iff.mpr O; subst O; rw [if_neg (show ¬ (false = true) by decide)] at H; exact absurd (Option.some.inj H) (by rw [hrt.out]; decide)

/-- what is to be proved of laws_FnFlowParts, without Go -/
def laws_FnFlowParts.Pure : Prop := ∀ (l0 : List Int), (l0.length ≤ maxLen ∧ ∀ l0_ ∈ l0, ((Lit.int .u8 l0_).wf = true)) → ∃ k, laws_FnFlowParts.f k l0 = some true

end Go.Proofs.Ytdlnnjgjfngccaa.F
