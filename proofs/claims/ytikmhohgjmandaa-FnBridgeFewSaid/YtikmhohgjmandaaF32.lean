-- By oprint.py.
import Derived.Test.YtikmhohgjmandaaF0
import Derived.Test.YtikmhohgjmandaaF16
import Derived.Test.YtikmhohgjmandaaF26
namespace Go.Proofs.Ytikmhohgjmandaa.F
open Go.RowKit Go.Proofs.YtikmhohgjmandaaW.PrintWords Go.Proofs.YtikmhohgjmandaaW.PrintLast Go.Proofs.YtikmhohgjmandaaW.PrintMore
attribute [local go_sem] max2_int min2_int max_two min_two max_three min_three max_four min_four
set_option linter.unusedVariables false
set_option linter.unusedSimpArgs false

/-! ### impl_WayReach: function 24 -/
mutual
def impl_WayReach.j0 : Nat → Int → List Bool → Bool → Int → List (S45) → Option (List Bool)
 | 0, _, _, _, _, _ => none
 | k + 1, x1, x5, x17, x694000, x694001 => if x17 = true then (some x5) else ((impl_Net_parts.f k x694000 x694001).bind fun t699 => (impl_WayReach.l0 k x1 x5 t699 (t699.length : Int) 0))
def impl_WayReach.l0 : Nat → Int → List Bool → List Int → Int → Int → Option (List Bool)
 | 0, _, _, _, _, _ => none
 | k + 1, x1, x5, x6, x22, x23 => if x23 < x22 then (if 0 ≤ x23 then (if x23 < (x6.length : Int) then (if 0 ≤ x1 then (if x1 < (x6.length : Int) then (if x5.length < 140737488355328 then (impl_WayReach.l0 k x1 (x5 ++ [((rd x6 x23) == (rd x6 x1))]) x6 x22 (wrap64 (x23 + 1))) else (none)) else (none)) else (none)) else (none)) else (none)) else (some x5)
end
def impl_WayReach.f (k : Nat) (a0_0 : Int) (l0_1 : List (S45)) (a1 : Int) : Option (List Bool) := (some (([] : List Bool) : List Bool)).bind fun y694 => ((impl_NetOk.f k a0_0 l0_1).bind fun t697 => (if t697 = true then ((impl_Net_knot.f a0_0 l0_1 a1).bind fun t698 => (impl_WayReach.j0 k a1 y694 (!t698) a0_0 l0_1)) else (impl_WayReach.j0 k a1 y694 true a0_0 l0_1)))
theorem impl_WayReach.mono_l : ∀ k, (∀ a b c d e, LeO (impl_WayReach.j0 k a b c d e) (impl_WayReach.j0 (k + 1) a b c d e)) ∧ (∀ a b c d e, LeO (impl_WayReach.l0 k a b c d e) (impl_WayReach.l0 (k + 1) a b c d e))
 | 0 => ⟨fun _ _ _ _ _ r h => by simp [impl_WayReach.j0] at h, fun _ _ _ _ _ r h => by simp [impl_WayReach.l0] at h⟩
 | k + 1 => by
  obtain ⟨ih0, ih1⟩ := impl_WayReach.mono_l k; refine ⟨?_, ?_⟩
  ·intro a b c d e; unfold impl_WayReach.j0; have f := @impl_NetOk.mono; have g := @impl_Net_parts.mono; exact mo_
  ·intro a b c d e; unfold impl_WayReach.l0; have f := @impl_NetOk.mono; have g := @impl_Net_parts.mono; exact mo_
theorem impl_WayReach.mono : ∀ a b c k, LeO (impl_WayReach.f k a b c) (impl_WayReach.f (k + 1) a b c) := by
 intro a b c k; obtain ⟨ih0, ih1⟩ := impl_WayReach.mono_l k; unfold impl_WayReach.f; have m0_ := @impl_NetOk.mono; have m1_ := @impl_Net_parts.mono; exact mo_
def impl_WayReach.T8 : Bool × List (List Nat × List Nat) := (true, [([], []), ([], []), ([], []), ([1, 2], [1, 2]), ([3], [3]), ([], []), ([], []), ([5, 6], [5, 6]), ([7], [7]), ([4, 8], [4, 8]), ([9], [9]), ([0, 10], [0, 10]), ([11, 11, 0, 1, 2, 3, 4, 5, 6, 7, 8, 9, 10, 11], [0, 11])])
def impl_WayReach.B8 : List Nat := [0, 0, 0, 6, 14, 0, 0, 96, 224, 510, 1022, 2047, 4095]
theorem impl_WayReach.tab8 : rtab .any (opsOf Try.f24 8) = impl_WayReach.T8 := by kernel_rfl
theorem impl_WayReach.bits8 : waitsOk impl_WayReach.T8.2 impl_WayReach.B8 = true := by kernel_rfl
set_option maxHeartbeats 8000000 in
set_option maxRecDepth 100000 in
theorem impl_WayReach.calls (k : Nat) (c : Int) (o : Option Addr) (p : Nat) (b : List (S45)) (d : Int) (r : List Bool) (w : World) (W : Kd.C k45 w o b.length b) (X : b.length ≤ p) (h : impl_WayReach.f k c b d = some r) :
  Calls Try.prog 24 #[.agg #[.int .i64 c, .slice o b.length p], .int .i64 d] w fun e w' => ∃ Y : Value, e = .returned (Y) ∧ Kd.R Kd.bool 4 w' w.heap.size (fun _ => True) Y r ∧ Below w.heap.size w w' := by
 have aV := Try.underlying25; have A := am W; have B := am X; clear W X; have HB := am (Below.refl w.heap.size w)
 have H : ((some (([] : List Bool) : List Bool)).bind fun q => ((impl_NetOk.f k c b).bind fun x => (if x = true then ((impl_Net_knot.f c b d).bind fun t => (impl_WayReach.j0 k d q (!t) c b)) else (impl_WayReach.j0 k d q true c b)))) = some r := h
 clear h; obtain ⟨q, G⟩ : ∃ y_ : List Bool, y_ = (([] : List Bool)) := ⟨_, rfl⟩; replace H : ((impl_NetOk.f k c b).bind fun x => (if x = true then ((impl_Net_knot.f c b d).bind fun t => (impl_WayReach.j0 k d q (!t) c b)) else (impl_WayReach.j0 k d q true c b))) = some r := nh_ G H; have Z := am G; clear G; have I := am H; clear H; go_enter Try.func24, Try.ntmps24
 go_upto_region 2 with (first | ((with_reducible refine gate_dst (N := 2) rfl ?_); refine bx_ 2 #[.int .i64 c, .slice o b.length p] 25 HB ?_; clear HB; intro aa hg w4 hb a aW HB; clear hb hg) | ((with_reducible refine gate_dst (N := 8) rfl ?_); refine Kd.R_lit Kd.bool _ 4 ?hg (N := 8) ?hd (xs := ([] : List Bool)) (inner := []) (ok := fun _ => True) (okp := fun _ => True) ?hr ?hp (fun _ hk => hk) trivial (Below.refl _ _) (Nat.le_refl _) (by simp) ?_; (case hd => rfl); (case hg => rfl); (case hr => first | (go_simp; done) | (go_simp; rfl)); (case hp => exact (Reps.none _ _)); intro aw w5 y hb ax ay; clear ax ay; (first | rw [← Z.out] at y | (simp only [Int.reduceToNat] at y; rw [← Z.out] at y)); have s := am (Kd.R_lower y (below_size (bn HB))); replace a := bb a hb; replace HB := bs HB hb; clear hb y))
 (try simp only [Act.put, List.setIfInBounds_toArray, List.set_cons_zero, List.set_cons_succ])
 go_cut [17] (fun az wc => ∃ (kq : Nat) (D : Bool), az = .bool D ∧ Aside0 (impl_WayReach.j0 kq d q D c b = some r) ∧ Aside0 (kq ≤ k) ∧ Aside0 (Kd.R Kd.bool 4 wc w.heap.size (fun _ => True) aw q) ∧ Bk wc aa (.cells #[.int .i64 c, (.slice o b.length p)] 25 (0, 0)) ∧ Aside0 (Below w.heap.size w wc))
 case first =>
  have H := I.out; clear I; obtain ⟨x, A7, H⟩ := bi_ H; by_cases E : x = true
  ·subst E; rw [if_pos rfl] at H; obtain ⟨t, A9, H⟩ := bi_ H; have H' := am H; clear H; have ab := c2 a
   go_wp2_with (first | ((with_reducible refine gate_callee (f := 42) rfl ?_); refine gl_ (some 10) Try.func42 #[.agg #[.int .i64 c, .slice o b.length p]] ?_; (with_reducible refine (impl_NetOk.calls k c _ _ b true _ ?z_1 ?z_2 A7.out).mono ?_); (case z_1 => exact cb A HB); (case z_2 => exact B.out); rintro e w11 ⟨rfl, hb⟩; refine ⟨_, rfl, ?_⟩; replace s := am (Kd.R_below (onR s) hb); replace a := bb a hb; replace HB := bs HB hb; (try clear hb); have ad := c2 a) | (go_at_call 43; (with_reducible refine (impl_Net_knot.calls c _ _ b d t _ ?z_1 ?z_2 A9.out).mono ?_); (case z_1 => exact cb A HB); (case z_2 => exact B.out); rintro e w13 ⟨rfl, hb⟩; replace s := am (Kd.R_below (onR s) hb); replace a := bb a hb; replace HB := bs HB hb; (try clear hb)))
   go_meet
   case rel => exact ⟨_, (!t), rs_, H', ⟨by first | omega | exact Nat.le_refl _⟩, ⟨onR s⟩, ⟨bkn a⟩, ⟨bn HB⟩⟩
  ·obtain rfl := nt_ E; rw [if_neg nf_] at H; have H' := am H; clear H; have ae := c2 a
   go_wp2_with (first | ((with_reducible refine gate_callee (f := 42) rfl ?_); refine gl_ (some 10) Try.func42 #[.agg #[.int .i64 c, .slice o b.length p]] ?_; (with_reducible refine (impl_NetOk.calls k c _ _ b false _ ?z_1 ?z_2 A7.out).mono ?_); (case z_1 => exact cb A HB); (case z_2 => exact B.out); rintro e w15 ⟨rfl, hb⟩; refine ⟨_, rfl, ?_⟩; replace s := am (Kd.R_below (onR s) hb); replace a := bb a hb; replace HB := bs HB hb; (try clear hb)))
   go_meet
   case rel => exact ⟨_, (true), rs_, H', ⟨by first | omega | exact Nat.le_refl _⟩, ⟨onR s⟩, ⟨bkn a⟩, ⟨bn HB⟩⟩
 case rest =>
  clear I; (try clear c2 E ab ad ae); obtain ⟨kq, D, rfl, HA, af, l, a, HB⟩ := hcut; cases kq with
  | zero => exact absurd HA.out (by simp [impl_WayReach.j0])
  | succ kj2 =>
   have H := HA.out; clear HA; simp only [impl_WayReach.j0] at H; by_cases J : D = true
   ·subst J; rw [if_pos rfl] at H; obtain rfl := Option.some.inj H; go_wp2
    go_ret
    exact ⟨_, er_, onR l, bn HB⟩
   ·obtain rfl := nt_ J; rw [if_neg nf_] at H; obtain ⟨g, aA, H⟩ := bi_ H; have H' := am H; clear H; have aC := c2 a
    go_wp2_with (first | ((with_reducible refine gate_callee (f := 51) rfl ?_); refine gl_ (some 20) Try.func51 #[.agg #[.int .i64 c, .slice o b.length p]] ?_; (with_reducible refine (impl_Net_parts.calls kj2 c _ _ b g _ ?z_1 ?z_2 aA.out).mono ?_); (case z_1 => exact cb A HB); (case z_2 => exact B.out); rintro e w19 ⟨aX, rfl, ag, hb⟩; refine ⟨_, rfl, ?_⟩; replace l := am (Kd.R_below (onR l) hb); have ah := am (Kd.R_lower ag (below_size (bn HB))); replace a := bb a hb; replace HB := bs HB hb; (try clear hb ag); obtain ⟨aD, aE, aG⟩ := Kd.R_slice ah.out; subst aG))
    go_loopg [5, 23] kj2 (fun kq v5 aH w' => ∃ (z : List Bool) (m : Int), aH = .int .i64 m ∧ Aside0 (impl_WayReach.l0 kq d z g (g.length : Int) m = some r) ∧ Aside0 (kq ≤ kj2) ∧ Aside0 (Kd.R Kd.bool 4 w' w.heap.size (fun _ => True) v5 z) ∧ Aside0 (Kd.R (Kd.int .i64) 3 w' w.heap.size (fun _ => True) (.slice aD g.length aE) g) ∧ Bk w' aa (.cells #[.int .i64 c, (.slice o b.length p)] 25 (0, 0)) ∧ Aside0 (Below w.heap.size w w'))
    case atStart => exact ⟨(q), (0), rs_, H', ⟨Nat.le_refl _⟩, ⟨onR l⟩, ⟨onR ah⟩, ⟨bkn a⟩, ⟨bn HB⟩⟩
    case round =>
     clear H'; (try clear c2 E J ab ad ae aC); obtain ⟨z, m, rfl, HA, ai, l, n, a, HB⟩ := hrel; cases gk with
     | zero => exact absurd HA.out (by simp [impl_WayReach.l0])
     | succ k2 =>
      have H := HA.out; clear HA; simp only [impl_WayReach.l0] at H; by_cases u : m < (g.length : Int)
      ·rw [if_pos u] at H; have aI := decide_eq_true u; clear u; obtain ⟨aY, H⟩ := id_ H; obtain ⟨aZ, H⟩ := id_ H; obtain ⟨a0, H⟩ := id_ H; obtain ⟨a1, H⟩ := id_ H; obtain ⟨aj, H⟩ := ig_ H; have aJ := am aj; clear aj; obtain ⟨ak, L⟩ : ∃ y_ : List Bool, y_ = (z ++ [((rd g m) == (rd g d))]) := ⟨_, rfl⟩; replace H : (impl_WayReach.l0 k2 d ak g (g.length : Int) (wrap64 (m + 1))) = some r := nh_ L H; have aK := am L; clear L; have H' := am H; clear H; try go_wp2
       replace l := dR l; replace n := dR n; replace a := dB a; replace HB := dL HB; have M : 0 ≤ (m : Int) := oa; have O : m < (g.length : Int) := oa; obtain ⟨aM, aN, al⟩ := Kd.at_int (Kd.R_reads' n.out).2.2 m M O; cases aN; obtain ⟨M, O⟩ := e2_ M O; have P : 0 ≤ (d : Int) := oa; have T : d < (g.length : Int) := oa; obtain ⟨aQ, aR, an⟩ := Kd.at_int (Kd.R_reads' n.out).2.2 d P T; obtain rfl : aM = aQ := (by injection aR); obtain ⟨P, T⟩ := e2_ P T; refine s2_ 13 [10, 11] al an (fun U => ?_); refine with_tabW impl_WayReach.tab8 impl_WayReach.bits8 (fun j ap => ?_); generalize wr.drew = w27 at l n a HB al an U ⊢; refine pz_ 0 j ?_; refine pz_ 1 j ?_; refine pz_ 2 j ?_; refine pz_ 3 j ?_; refine pz_ 5 j ?_; refine pz_ 6 j ?_; refine pz_ 7 j ?_; refine tz_ 4 j ap U ?_; refine tz_ 8 j ap U ?_; refine pz_ 9 j ?_; refine last_ (i := 10) (N := some 36) #[true, true, true, true, true, true, true, true, true, true, true, false, false] rfl rfl (one_of j.out (by kernel_rfl)) (by decide) (fun K hK => ?_); refine value_ (w1 := ?_) (v := ?_) (by rfl) rfl ?_ ?_
       rotate_left 2
       ·go_simp
        constructor
        ·rfl
        ·rfl
       refine hK.out _ _ ?_; clear hK K; refine nz_ 36 ?_; refine last_ (i := 11) (N := some 37) #[true, true, true, true, true, true, true, true, true, true, true, true, false] rfl rfl (one_of j.out (by kernel_rfl)) (by decide) (fun K hK => ?_); refine Kd.R_append_step Kd.bool (w0 := w) w.heap.size (by rfl) (.tmp 26) (.tmp 36) 48 4 (.bool false) 1 rfl Try.underlying48 info4 rfl (by decide) (by omega) u5 z ((rd g m) == (rd g d)) [.bool ((rd g m) == (rd g d))] (fun _ => True) (fun _ => False) rfl rfl ?aP (fun _ hk => hk.elim) ?aF ?aO ?aB ?aS ?aL ?_; (case aP => exact rfl); (case aB => exact (bn HB)); (case aF => exact (fun _ _ => trivial)); (case aO => exact (onR l)); (case aS => exact (below_size (bn HB))); (case aL => have := aJ.out; omega); intro a2 w28 ho hb hg aT; rw [← aK.out] at ho; have aq := am (Kd.R_over' (onR n) (Kd.R_typed (onR l)) (by decide) hg); have ar := bm (blk_grown (bkn a) hg (Kd.R_ne l.out a.out (by decide))); have au := am hb; have av := am ho; clear n a HB l; have n := aq; have a := ar; have HB := au; have aU := av; clear aq ar au av ho hb hg aT; refine hK.out _ _ ?_; clear hK K; refine nz_ 37 ?_; refine pz_ 12 j ?_; refine done_ (done_of j.out (by kernel_rfl)) ?_; try go_wp2
       go_roundg k2
       case measure => have := af.out; have := ai.out; omega
       case rel => exact ⟨(ak), (wrap64 (m + 1)), rs_, H', ⟨by have := af.out; have := ai.out; omega⟩, ⟨onR aU⟩, ⟨onR n⟩, ⟨bkn a⟩, ⟨bn HB⟩⟩
      ·rw [if_neg u] at H; have aI := decide_eq_false u; clear u; obtain rfl := Option.some.inj H; go_wp2
       go_ret
       exact ⟨_, er_, onR l, bn HB⟩

end Go.Proofs.Ytikmhohgjmandaa.F
