-- By oprint.py.
import Derived.Test.YtiamiahkjdipkaaF0
import Derived.Test.YtiamiahkjdipkaaF33
import Derived.Test.YtiamiahkjdipkaaF35
import Derived.Test.YtiamiahkjdipkaaXFlowS
namespace Go.Proofs.Ytiamiahkjdipkaa.F
open Go.RowKit Go.Proofs.YtiamiahkjdipkaaW.PrintWords Go.Proofs.YtiamiahkjdipkaaW.PrintLast Go.Proofs.YtiamiahkjdipkaaW.PrintMore
attribute [local go_sem] max2_int min2_int max_two min_two max_three min_three max_four min_four
set_option linter.unusedVariables false
set_option linter.unusedSimpArgs false

/-! ### laws_FnFlowFew: function 7 -/
mutual
def laws_FnFlowFew.j0 : Nat → Int → Int → Int → Bool → Int → List (S35) → Option (Bool)
 | 0, _, _, _, _, _, _ => none
 | k + 1, x4, x5, x6, x35, x846000, x846001 => if x35 = true then ((spec_FlowCount.f k x846000 x846001 x4 x5).bind fun t848 => (some (x6 == t848))) else (laws_FnFlowFew.l0 k x4 x5 x6 0 0 0 x846000 x846001)
def laws_FnFlowFew.l0 : Nat → Int → Int → Int → Int → Int → Int → Int → List (S35) → Option (Bool)
 | 0, _, _, _, _, _, _, _, _ => none
 | k + 1, x4, x5, x6, x7, x8, x9, x846000, x846001 => if x9 < (x846001.length : Int) then (if 0 ≤ x9 then (if ((rd_T35 x846001 x9).f0) = x4 then (laws_FnFlowFew.j2 k x4 x5 x6 x7 x8 x9 true x846000 x846001) else (laws_FnFlowFew.j2 k x4 x5 x6 x7 x8 x9 (((rd_T35 x846001 x9).f1) == x4) x846000 x846001)) else (none)) else ((impl_TwoFind.f k x846000 x846001 x4 x5).bind fun bt849 => (if x6 ≤ (mn x7 x8) then (if bt849.2.2 = true then (some (decide (x6 ≥ 2))) else (some true)) else (some false)))
def laws_FnFlowFew.j2 : Nat → Int → Int → Int → Int → Int → Int → Bool → Int → List (S35) → Option (Bool)
 | 0, _, _, _, _, _, _, _, _, _ => none
 | k + 1, x4, x5, x6, x7, x8, x9, x66, x846000, x846001 => if x66 = true then (if 0 ≤ x9 then (if x9 < (x846001.length : Int) then (if ((rd_T35 x846001 x9).f0) = x5 then (laws_FnFlowFew.l0 k x4 x5 x6 (wrap64 (x7 + 1)) (wrap64 (x8 + 1)) (wrap64 (x9 + 1)) x846000 x846001) else (if ((rd_T35 x846001 x9).f1) = x5 then (laws_FnFlowFew.l0 k x4 x5 x6 (wrap64 (x7 + 1)) (wrap64 (x8 + 1)) (wrap64 (x9 + 1)) x846000 x846001) else (laws_FnFlowFew.l0 k x4 x5 x6 (wrap64 (x7 + 1)) x8 (wrap64 (x9 + 1)) x846000 x846001))) else (none)) else (none)) else (if 0 ≤ x9 then (if x9 < (x846001.length : Int) then (if ((rd_T35 x846001 x9).f0) = x5 then (laws_FnFlowFew.l0 k x4 x5 x6 x7 (wrap64 (x8 + 1)) (wrap64 (x9 + 1)) x846000 x846001) else (if ((rd_T35 x846001 x9).f1) = x5 then (laws_FnFlowFew.l0 k x4 x5 x6 x7 (wrap64 (x8 + 1)) (wrap64 (x9 + 1)) x846000 x846001) else (laws_FnFlowFew.l0 k x4 x5 x6 x7 x8 (wrap64 (x9 + 1)) x846000 x846001))) else (none)) else (none))
end
def laws_FnFlowFew.f (k : Nat) (l0 : List Int) : Option (Bool) := if (l0.length : Int) > 1048576 then (some true) else ((spec_DrawFlowCount.f k l0).bind fun bt839 => ((impl_FlowCount.f k bt839.1 bt839.2.1 bt839.2.2.1 bt839.2.2.2).bind fun t846 => ((spec_FlowCount.f k bt839.1 bt839.2.1 bt839.2.2.1 bt839.2.2.2).bind fun t847 => (if t846 = t847 then (laws_FnFlowFew.j0 k bt839.2.2.1 bt839.2.2.2 t846 (decide (t846 < 0)) bt839.1 bt839.2.1) else (laws_FnFlowFew.j0 k bt839.2.2.1 bt839.2.2.2 t846 true bt839.1 bt839.2.1)))))
theorem laws_FnFlowFew.mono_l : ∀ k, (∀ a b c d e f, LeO (laws_FnFlowFew.j0 k a b c d e f) (laws_FnFlowFew.j0 (k + 1) a b c d e f)) ∧ (∀ a b c d e f g i, LeO (laws_FnFlowFew.l0 k a b c d e f g i) (laws_FnFlowFew.l0 (k + 1) a b c d e f g i)) ∧ (∀ a b c d e f g i j, LeO (laws_FnFlowFew.j2 k a b c d e f g i j) (laws_FnFlowFew.j2 (k + 1) a b c d e f g i j))
 | 0 => ⟨fun _ _ _ _ _ _ r h => by simp [laws_FnFlowFew.j0] at h, fun _ _ _ _ _ _ _ _ r h => by simp [laws_FnFlowFew.l0] at h, fun _ _ _ _ _ _ _ _ _ r h => by simp [laws_FnFlowFew.j2] at h⟩
 | k + 1 => by
  obtain ⟨ih0, ih1, ih2⟩ := laws_FnFlowFew.mono_l k; refine ⟨?_, ?_, ?_⟩
  ·intro a b c d e f; unfold laws_FnFlowFew.j0; have l := @impl_FlowCount.mono; have m := @impl_TwoFind.mono; have n := @spec_DrawFlowCount.mono; have o := @spec_FlowCount.mono; exact mo_
  ·intro a b c d e f g i; unfold laws_FnFlowFew.l0; have l := @impl_FlowCount.mono; have m := @impl_TwoFind.mono; have n := @spec_DrawFlowCount.mono; have o := @spec_FlowCount.mono; exact mo_
  ·intro a b c d e f g i j; unfold laws_FnFlowFew.j2; have l := @impl_FlowCount.mono; have m := @impl_TwoFind.mono; have n := @spec_DrawFlowCount.mono; have o := @spec_FlowCount.mono; exact mo_
theorem laws_FnFlowFew.mono : ∀ a k, LeO (laws_FnFlowFew.f k a) (laws_FnFlowFew.f (k + 1) a) := by
 intro a k; obtain ⟨ih0, ih1, ih2⟩ := laws_FnFlowFew.mono_l k; unfold laws_FnFlowFew.f; have m0_ := @impl_FlowCount.mono; have m1_ := @impl_TwoFind.mono; have m2_ := @spec_DrawFlowCount.mono; have m3_ := @spec_FlowCount.mono; exact mo_
set_option maxHeartbeats 8000000 in
set_option maxRecDepth 100000 in
theorem laws_FnFlowFew.calls (k : Nat) (A0 : Option Addr) (c0 : Nat) (l0 : List Int) (r : Bool) (w : World) (aK : Kd.C (Kd.int .u8) w A0 l0.length l0) (aL : l0.length ≤ c0) (hrt : Aside0 (r = true)) (h : laws_FnFlowFew.f k l0 = some r) :
  Calls Try.prog 7 #[.slice A0 l0.length c0] w fun e w' => e = .returned (.bool r) ∧ Below w.heap.size w w' := by
 have bH := Try.underlying25; have a3 := am aK; have a4 := am aL; clear aK aL; have HB := am (Below.refl w.heap.size w)
 have H : (if (l0.length : Int) > 1048576 then (some true) else ((spec_DrawFlowCount.f k l0).bind fun p => ((impl_FlowCount.f k p.1 p.2.1 p.2.2.1 p.2.2.2).bind fun m => ((spec_FlowCount.f k p.1 p.2.1 p.2.2.1 p.2.2.2).bind fun I => (if m = I then (laws_FnFlowFew.j0 k p.2.2.1 p.2.2.2 m (decide (m < 0)) p.1 p.2.1) else (laws_FnFlowFew.j0 k p.2.2.1 p.2.2.2 m true p.1 p.2.1)))))) = some r := h
 clear h; by_cases c2 : (l0.length : Int) > 1048576
 ·rw [if_pos c2] at H; have ai := decide_eq_true c2; have aj : decide (1048576 < l0.length) = true := decide_eq_true (by omega); clear c2; obtain rfl := Option.some.inj H; go_enter Try.func7, Try.ntmps7; go_wp2
  go_ret
  exact ⟨er_, bn HB⟩
 ·rw [if_neg c2] at H; have ai := decide_eq_false c2; have aj : decide (1048576 < l0.length) = false := decide_eq_false (by omega); clear c2; obtain ⟨⟨l, b, j, g⟩, A3, H⟩ := bi_ H; (try dsimp only at H); obtain ⟨m, A4, H⟩ := bi_ H; have aw := am H; clear H; go_enter Try.func7, Try.ntmps7
  go_upto_region 5 with (first | ((with_reducible refine gate_callee (f := 28) rfl ?_); refine gl_ (some 18) Try.func28 #[.slice A0 l0.length c0] ?_; (with_reducible refine (spec_DrawFlowCount.calls k _ _ l0 l b j g _ ?z_1 ?z_2 A3.out).mono ?_); (case z_1 => repeat (first | exact a3.out | (with_reducible refine Kd.C_alloc ?_ _) | (with_reducible refine Kd.C_drewN ?_ _) | (with_reducible refine Kd.C_drew ?_))); (case z_2 => exact a4.out); rintro e w6 ⟨bI, rfl, J, hb⟩; refine ⟨_, rfl, ?_⟩; have o := am (Kd.R_lower J (below_size (bn HB))); replace HB := bs HB hb; (try clear hb J)) | ((with_reducible refine gate_dst (N := 3) rfl ?_); refine bx_ 3 #[.int .i64 0, .slice none 0 0] 25 HB ?_; clear HB; intro ax hg w7 hb d bJ HB; replace o := am (Kd.R_below (onR o) hb); clear hb hg; have ay := c2 d; obtain ⟨y, t, a5⟩ := Kd.R_slice o.out; subst a5) | ((with_reducible refine gate_callee (f := 26) rfl ?_); refine gl_ (some 25) Try.func26 #[.agg #[.int .i64 l, .slice y b.length t], .int .i64 j, .int .i64 g] ?_; (with_reducible refine (impl_FlowCount.calls k l _ _ b j g m _ ?z_1 ?z_2 A4.out).mono ?_); (case z_1 => refine (Kd.R_reads' (e := 35) (base := w.heap.size) (ok := fun k_ => True) (n := b.length) (c := t) ?_).2.2; exact (onR o)); (case z_2 => exact (Kd.R_reads' o.out).2.1); rintro e w10 ⟨rfl, hb⟩; refine ⟨_, rfl, ?_⟩; replace o := am (Kd.R_below (onR o) hb); replace d := bb d hb; replace HB := bs HB hb; (try clear hb)))
  (try simp only [Act.put, List.setIfInBounds_toArray, List.set_cons_zero, List.set_cons_succ])
  go_cut [35] (fun a6 wc => ∃ (kq : Nat) (ak : Bool), a6 = .bool ak ∧ Aside0 (laws_FnFlowFew.j0 kq j g m ak l b = some r) ∧ Aside0 (kq ≤ k) ∧ Aside0 (Kd.R k35 35 wc w.heap.size (fun _ => True) (.slice y b.length t) b) ∧ Bk wc ax (.cells #[.int .i64 l, (.slice y b.length t)] 25 (0, 0)) ∧ Aside0 (Below w.heap.size w wc))
  case first =>
   have H := aw.out; clear aw; obtain ⟨I, aM, H⟩ := bi_ H; by_cases G : m = I
   ·rw [if_pos G] at H; have K : (m == I) = true := beq_iff_eq.mpr G; have al : (m != I) = false := bne_eq_false_iff_eq.mpr G; clear G; (first | rw [K] | (simp only [i64_w, i32_w]; rw [K]) | skip); have H' := am H; clear H; have az := c2 d
    go_wp2_with (first | ((with_reducible refine gate_callee (f := 29) rfl ?_); refine gl_ (some 30) Try.func29 #[.agg #[.int .i64 l, .slice y b.length t], .int .i64 j, .int .i64 g] ?_; (with_reducible refine (spec_FlowCount.calls k l _ _ b j g I _ ?z_1 ?z_2 aM.out).mono ?_); (case z_1 => exact (Kd.R_reads' (onR o)).2.2); (case z_2 => exact (Kd.R_reads' o.out).2.1); rintro e w14 ⟨rfl, hb⟩; refine ⟨_, rfl, ?_⟩; replace o := am (Kd.R_below (onR o) hb); replace d := bb d hb; replace HB := bs HB hb; (try clear hb)))
    go_meet
    case rel => exact ⟨_, (decide (m < 0)), rs_, H', ⟨by first | omega | exact Nat.le_refl _⟩, ⟨onR o⟩, ⟨bkn d⟩, ⟨bn HB⟩⟩
   ·rw [if_neg G] at H; have K : (m == I) = false := beq_eq_false_iff_ne.mpr G; have al : (m != I) = true := bne_iff_ne.mpr G; (first | rw [K] | (simp only [i64_w, i32_w]; rw [K]) | skip); have H' := am H; clear H; have aA := c2 d
    go_wp2_with (first | ((with_reducible refine gate_callee (f := 29) rfl ?_); refine gl_ (some 30) Try.func29 #[.agg #[.int .i64 l, .slice y b.length t], .int .i64 j, .int .i64 g] ?_; (with_reducible refine (spec_FlowCount.calls k l _ _ b j g I _ ?z_1 ?z_2 aM.out).mono ?_); (case z_1 => exact (Kd.R_reads' (onR o)).2.2); (case z_2 => exact (Kd.R_reads' o.out).2.1); rintro e w16 ⟨rfl, hb⟩; refine ⟨_, rfl, ?_⟩; replace o := am (Kd.R_below (onR o) hb); replace d := bb d hb; replace HB := bs HB hb; (try clear hb)))
    go_meet
    case rel => exact ⟨_, (true), rs_, H', ⟨by first | omega | exact Nat.le_refl _⟩, ⟨onR o⟩, ⟨bkn d⟩, ⟨bn HB⟩⟩
  case rest =>
   clear aw; (try clear c2 ai aj G K al az aA ay); obtain ⟨kq, ak, rfl, HA, q, i, d, HB⟩ := hcut; cases kq with
   | zero => exact absurd HA.out (by simp [laws_FnFlowFew.j0])
   | succ kj4 =>
    have H := HA.out; clear HA; simp only [laws_FnFlowFew.j0] at H; by_cases an : ak = true
    ·subst an; rw [if_pos rfl] at H; obtain ⟨a7, a8, H⟩ := bi_ H; obtain rfl := Option.some.inj H; have aN := c2 d
     go_wp2_with (first | ((with_reducible refine gate_callee (f := 29) rfl ?_); refine gl_ (some 40) Try.func29 #[.agg #[.int .i64 l, .slice y b.length t], .int .i64 j, .int .i64 g] ?_; (with_reducible refine (spec_FlowCount.calls kj4 l _ _ b j g a7 _ ?z_1 ?z_2 a8.out).mono ?_); (case z_1 => exact (Kd.R_reads' (onR i)).2.2); (case z_2 => exact (Kd.R_reads' i.out).2.1); rintro e w20 ⟨rfl, hb⟩; refine ⟨_, rfl, ?_⟩; replace i := am (Kd.R_below (onR i) hb); replace d := bb d hb; replace HB := bs HB hb; (try clear hb)))
     go_ret
     exact ⟨er_, bn HB⟩
    ·obtain rfl := nt_ an; rw [if_neg nf_] at H; have H' := am H; clear H; go_wp2
     go_loopg [7, 8, 9] kj4 (fun kq v7 v8 v9 w' => ∃ (u : Int) (x : Int) (a : Int), v7 = .int .i64 u ∧ v8 = .int .i64 x ∧ v9 = .int .i64 a ∧ Aside0 (laws_FnFlowFew.l0 kq j g m u x a l b = some r) ∧ Aside0 (kq ≤ kj4) ∧ Aside0 (Kd.R k35 35 w' w.heap.size (fun _ => True) (.slice y b.length t) b) ∧ Bk w' ax (.cells #[.int .i64 l, (.slice y b.length t)] 25 (0, 0)) ∧ Aside0 (Below w.heap.size w w'))
     case atStart => exact ⟨(0), (0), (0), rs_, rs_, rs_, H', ⟨Nat.le_refl _⟩, ⟨onR i⟩, ⟨bkn d⟩, ⟨bn HB⟩⟩
     case round =>
      clear H'; (try clear c2 ai aj G K al an az aA aN ay); obtain ⟨u, x, a, rfl, rfl, rfl, HA, s, i, d, HB⟩ := hrel; cases gk with
      | zero => exact absurd HA.out (by simp [laws_FnFlowFew.l0])
      | succ k2 =>
       have H := HA.out; clear HA; simp only [laws_FnFlowFew.l0] at H; by_cases P : a < (b.length : Int)
       ·rw [if_pos P] at H; have aO := decide_eq_true P; clear P; have aB := am H; clear H; have a9 := c2 d
        go_upto_region 12 with (fail)
        go_cut [66] (fun ba wc => ∃ (kq : Nat) (ap : Bool), ba = .bool ap ∧ Aside0 (laws_FnFlowFew.j2 kq j g m u x a ap l b = some r) ∧ Aside0 (kq ≤ k2) ∧ Aside0 (Kd.R k35 35 wc w.heap.size (fun _ => True) (.slice y b.length t) b) ∧ Bk wc ax (.cells #[.int .i64 l, (.slice y b.length t)] 25 (0, 0)) ∧ Aside0 (Below w.heap.size w wc))
        case first =>
         have H := aB.out; clear aB; obtain ⟨aC, H⟩ := id_ H; (first | rw [aC] | (simp only [i64_w, i32_w]; rw [aC]) | skip); by_cases L : ((rd_T35 b a).f0) = j
         ·rw [if_pos L] at H; have aP : (((rd_T35 b a).f0) == j) = true := beq_iff_eq.mpr L; have aQ : (((rd_T35 b a).f0) != j) = false := bne_eq_false_iff_eq.mpr L; clear L; have H' := am H; clear H; have bd := c2 d; have M : 0 ≤ (a : Int) := oa; have O : a < (b.length : Int) := oa; obtain ⟨aR, aD, aS, aT⟩ := at_T35 (Kd.R_reads' i.out).2.2 a M O; cases aD; obtain ⟨M, O⟩ := e2_ M O; go_wp2
          go_meet
          case rel => exact ⟨_, (true), rs_, H', ⟨by have := q.out; have := s.out; first | omega | exact Nat.le_refl _⟩, ⟨onR i⟩, ⟨bkn d⟩, ⟨bn HB⟩⟩
         ·rw [if_neg L] at H; have aP : (((rd_T35 b a).f0) == j) = false := beq_eq_false_iff_ne.mpr L; have aQ : (((rd_T35 b a).f0) != j) = true := bne_iff_ne.mpr L; have H' := am H; clear H; have bf := c2 d; have M : 0 ≤ (a : Int) := oa; have O : a < (b.length : Int) := oa; obtain ⟨aR, aD, aS, aT⟩ := at_T35 (Kd.R_reads' i.out).2.2 a M O; cases aD; obtain ⟨M, O⟩ := e2_ M O; have aq : 0 ≤ (a : Int) := oa; have ar : a < (b.length : Int) := oa; obtain ⟨bg, bh, bi, bj⟩ := at_T35 (Kd.R_reads' i.out).2.2 a aq ar; obtain rfl : aR = bg := (by injection bh); obtain ⟨aq, ar⟩ := e2_ aq ar; go_wp2
          go_meet
          case rel => exact ⟨_, ((((rd_T35 b a).f1) == j)), rs_, H', ⟨by have := q.out; have := s.out; first | omega | exact Nat.le_refl _⟩, ⟨onR i⟩, ⟨bkn d⟩, ⟨bn HB⟩⟩
        case rest =>
         clear aB; (try clear c2 ai aj G K al an P aO aC L aP aQ az aA aN a9 bd bf ay aS aT bi bj M aq O ar); obtain ⟨kq, ap, rfl, HA, z, i, d, HB⟩ := hcut; cases kq with
         | zero => exact absurd HA.out (by simp [laws_FnFlowFew.j2])
         | succ kj21 =>
          have H := HA.out; clear HA; simp only [laws_FnFlowFew.j2] at H; by_cases aU : ap = true
          ·subst aU; rw [if_pos rfl] at H; obtain ⟨bK, H⟩ := id_ H; obtain ⟨bL, H⟩ := id_ H; by_cases T : ((rd_T35 b a).f0) = g
           ·rw [if_pos T] at H; have bk : (((rd_T35 b a).f0) == g) = true := beq_iff_eq.mpr T; have bl : (((rd_T35 b a).f0) != g) = false := bne_eq_false_iff_eq.mpr T; clear T; have H' := am H; clear H; have bM := c2 d; have A : 0 ≤ (a : Int) := oa; have B : a < (b.length : Int) := oa; obtain ⟨au, af, aV, aW⟩ := at_T35 (Kd.R_reads' i.out).2.2 a A B; cases af; obtain ⟨A, B⟩ := e2_ A B; go_wp2
            go_roundg kj21
            case measure => have := q.out; have := s.out; have := z.out; omega
            case rel => exact ⟨(wrap64 (u + 1)), (wrap64 (x + 1)), (wrap64 (a + 1)), rs_, rs_, rs_, H', ⟨by have := q.out; have := s.out; have := z.out; omega⟩, ⟨onR i⟩, ⟨bkn d⟩, ⟨bn HB⟩⟩
           ·rw [if_neg T] at H; have bk : (((rd_T35 b a).f0) == g) = false := beq_eq_false_iff_ne.mpr T; have bl : (((rd_T35 b a).f0) != g) = true := bne_iff_ne.mpr T; by_cases U : ((rd_T35 b a).f1) = g
            ·rw [if_pos U] at H; have bo : (((rd_T35 b a).f1) == g) = true := beq_iff_eq.mpr U; have bp : (((rd_T35 b a).f1) != g) = false := bne_eq_false_iff_eq.mpr U; clear U; have H' := am H; clear H; have bN := c2 d; have A : 0 ≤ (a : Int) := oa; have B : a < (b.length : Int) := oa; obtain ⟨au, af, aV, aW⟩ := at_T35 (Kd.R_reads' i.out).2.2 a A B; cases af; obtain ⟨A, B⟩ := e2_ A B; have W : 0 ≤ (a : Int) := oa; have X : a < (b.length : Int) := oa; obtain ⟨aE, aF, br, bu⟩ := at_T35 (Kd.R_reads' i.out).2.2 a W X; obtain rfl : au = aE := (by injection aF); obtain ⟨W, X⟩ := e2_ W X; go_wp2
             go_roundg kj21
             case measure => have := q.out; have := s.out; have := z.out; omega
             case rel => exact ⟨(wrap64 (u + 1)), (wrap64 (x + 1)), (wrap64 (a + 1)), rs_, rs_, rs_, H', ⟨by have := q.out; have := s.out; have := z.out; omega⟩, ⟨onR i⟩, ⟨bkn d⟩, ⟨bn HB⟩⟩
            ·rw [if_neg U] at H; have bo : (((rd_T35 b a).f1) == g) = false := beq_eq_false_iff_ne.mpr U; have bp : (((rd_T35 b a).f1) != g) = true := bne_iff_ne.mpr U; have H' := am H; clear H; have bO := c2 d; have A : 0 ≤ (a : Int) := oa; have B : a < (b.length : Int) := oa; obtain ⟨au, af, aV, aW⟩ := at_T35 (Kd.R_reads' i.out).2.2 a A B; cases af; obtain ⟨A, B⟩ := e2_ A B; have W : 0 ≤ (a : Int) := oa; have X : a < (b.length : Int) := oa; obtain ⟨aE, aF, br, bu⟩ := at_T35 (Kd.R_reads' i.out).2.2 a W X; obtain rfl : au = aE := (by injection aF); obtain ⟨W, X⟩ := e2_ W X; go_wp2
             go_roundg kj21
             case measure => have := q.out; have := s.out; have := z.out; omega
             case rel => exact ⟨(wrap64 (u + 1)), (x), (wrap64 (a + 1)), rs_, rs_, rs_, H', ⟨by have := q.out; have := s.out; have := z.out; omega⟩, ⟨onR i⟩, ⟨bkn d⟩, ⟨bn HB⟩⟩
          ·obtain rfl := nt_ aU; rw [if_neg nf_] at H; obtain ⟨bP, H⟩ := id_ H; obtain ⟨bQ, H⟩ := id_ H; by_cases Y : ((rd_T35 b a).f0) = g
           ·rw [if_pos Y] at H; have bv : (((rd_T35 b a).f0) == g) = true := beq_iff_eq.mpr Y; have bw : (((rd_T35 b a).f0) != g) = false := bne_eq_false_iff_eq.mpr Y; clear Y; have H' := am H; clear H; have bR := c2 d; have D : 0 ≤ (a : Int) := oa; have E : a < (b.length : Int) := oa; obtain ⟨av, ag, aX, aY⟩ := at_T35 (Kd.R_reads' i.out).2.2 a D E; cases ag; obtain ⟨D, E⟩ := e2_ D E; go_wp2
            go_roundg kj21
            case measure => have := q.out; have := s.out; have := z.out; omega
            case rel => exact ⟨(u), (wrap64 (x + 1)), (wrap64 (a + 1)), rs_, rs_, rs_, H', ⟨by have := q.out; have := s.out; have := z.out; omega⟩, ⟨onR i⟩, ⟨bkn d⟩, ⟨bn HB⟩⟩
           ·rw [if_neg Y] at H; have bv : (((rd_T35 b a).f0) == g) = false := beq_eq_false_iff_ne.mpr Y; have bw : (((rd_T35 b a).f0) != g) = true := bne_iff_ne.mpr Y; by_cases Z : ((rd_T35 b a).f1) = g
            ·rw [if_pos Z] at H; have bx : (((rd_T35 b a).f1) == g) = true := beq_iff_eq.mpr Z; have bz : (((rd_T35 b a).f1) != g) = false := bne_eq_false_iff_eq.mpr Z; clear Z; have H' := am H; clear H; have bS := c2 d; have D : 0 ≤ (a : Int) := oa; have E : a < (b.length : Int) := oa; obtain ⟨av, ag, aX, aY⟩ := at_T35 (Kd.R_reads' i.out).2.2 a D E; cases ag; obtain ⟨D, E⟩ := e2_ D E; have aa : 0 ≤ (a : Int) := oa; have ab : a < (b.length : Int) := oa; obtain ⟨aG, aH, bA, bB⟩ := at_T35 (Kd.R_reads' i.out).2.2 a aa ab; obtain rfl : av = aG := (by injection aH); obtain ⟨aa, ab⟩ := e2_ aa ab; go_wp2
             go_roundg kj21
             case measure => have := q.out; have := s.out; have := z.out; omega
             case rel => exact ⟨(u), (wrap64 (x + 1)), (wrap64 (a + 1)), rs_, rs_, rs_, H', ⟨by have := q.out; have := s.out; have := z.out; omega⟩, ⟨onR i⟩, ⟨bkn d⟩, ⟨bn HB⟩⟩
            ·rw [if_neg Z] at H; have bx : (((rd_T35 b a).f1) == g) = false := beq_eq_false_iff_ne.mpr Z; have bz : (((rd_T35 b a).f1) != g) = true := bne_iff_ne.mpr Z; have H' := am H; clear H; have bT := c2 d; have D : 0 ≤ (a : Int) := oa; have E : a < (b.length : Int) := oa; obtain ⟨av, ag, aX, aY⟩ := at_T35 (Kd.R_reads' i.out).2.2 a D E; cases ag; obtain ⟨D, E⟩ := e2_ D E; have aa : 0 ≤ (a : Int) := oa; have ab : a < (b.length : Int) := oa; obtain ⟨aG, aH, bA, bB⟩ := at_T35 (Kd.R_reads' i.out).2.2 a aa ab; obtain rfl : av = aG := (by injection aH); obtain ⟨aa, ab⟩ := e2_ aa ab; go_wp2
             go_roundg kj21
             case measure => have := q.out; have := s.out; have := z.out; omega
             case rel => exact ⟨(u), (x), (wrap64 (a + 1)), rs_, rs_, rs_, H', ⟨by have := q.out; have := s.out; have := z.out; omega⟩, ⟨onR i⟩, ⟨bkn d⟩, ⟨bn HB⟩⟩
       ·rw [if_neg P] at H; have aO := decide_eq_false P; clear P; obtain ⟨⟨aZ, a0, a1⟩, aI, H⟩ := bi_ H; (try dsimp only at H); obtain ⟨aJ, ad⟩ : ∃ j_ : Int, (mn u x) = j_ := ⟨_, rfl⟩; replace H : (if m ≤ (aJ) then (if a1 = true then (some (decide (m ≥ 2))) else (some true)) else (some false)) = some r := by first | (rw [ad] at H; exact H) | (simp only [ad] at H ⊢; exact H)
        (try rw [ad] at aI); have bU : (if x < u then x else u) = aJ := ad; by_cases ae : m ≤ (aJ)
        ·rw [if_pos ae] at H; have bC := decide_eq_true ae; clear ae; by_cases a2 : a1 = true
         ·subst a2; rw [if_pos rfl] at H; obtain rfl := Option.some.inj H; have bV := c2 d
          go_wp2_with (first | ((with_reducible refine gate_callee (f := 30) rfl ?_); refine gl_ (some 93) Try.func30 #[.agg #[.int .i64 l, .slice y b.length t], .int .i64 j, .int .i64 g] ?_; (with_reducible refine (impl_TwoFind.calls k2 l _ _ b j g aZ a0 true _ ?z_1 ?z_2 aI.out).mono ?_); (case z_1 => exact (Kd.R_reads' (onR i)).2.2); (case z_2 => exact (Kd.R_reads' i.out).2.1); rintro e w48 ⟨bD, bE, rfl, J, ah, hb⟩; refine ⟨_, rfl, ?_⟩; replace i := am (Kd.R_below (onR i) hb); have bF := am (Kd.R_lower J (below_size (bn HB))); have bG := am (Kd.R_lower ah (below_size (bn HB))); replace d := bb d hb; replace HB := bs HB hb; (try clear hb J ah)))
          go_ret
          exact ⟨by first | rfl | (simp [errW_none, errW_some] <;> rfl) | (simp only [← ad]; first | rfl | (simp [errW_none, errW_some] <;> rfl)) | (simp [*, errW_none, errW_some] <;> rfl), bn HB⟩
         ·obtain rfl := nt_ a2; rw [if_neg nf_] at H; obtain rfl := Option.some.inj H; have bW := c2 d
          go_wp2_with (first | ((with_reducible refine gate_callee (f := 30) rfl ?_); refine gl_ (some 93) Try.func30 #[.agg #[.int .i64 l, .slice y b.length t], .int .i64 j, .int .i64 g] ?_; (with_reducible refine (impl_TwoFind.calls k2 l _ _ b j g aZ a0 false _ ?z_1 ?z_2 aI.out).mono ?_); (case z_1 => exact (Kd.R_reads' (onR i)).2.2); (case z_2 => exact (Kd.R_reads' i.out).2.1); rintro e w50 ⟨bD, bE, rfl, J, ah, hb⟩; refine ⟨_, rfl, ?_⟩; replace i := am (Kd.R_below (onR i) hb); have bF := am (Kd.R_lower J (below_size (bn HB))); have bG := am (Kd.R_lower ah (below_size (bn HB))); replace d := bb d hb; replace HB := bs HB hb; (try clear hb J ah)))
          go_ret
          exact ⟨by first | rfl | (simp [errW_none, errW_some] <;> rfl) | (simp only [← ad]; first | rfl | (simp [errW_none, errW_some] <;> rfl)) | (simp [*, errW_none, errW_some] <;> rfl), bn HB⟩
        ·rw [if_neg ae] at H; have bC := decide_eq_false ae; clear ae; exact absurd (Option.some.inj H) (by rw [hrt.out]; decide)

/-- what is to be proved of laws_FnFlowFew, without Go -/
def laws_FnFlowFew.Pure : Prop := ∀ (l0 : List Int), (l0.length ≤ maxLen ∧ ∀ l0_ ∈ l0, ((Lit.int .u8 l0_).wf = true)) → ∃ k, laws_FnFlowFew.f k l0 = some true

end Go.Proofs.Ytiamiahkjdipkaa.F
