-- By oprint.py.
import Derived.Test.YtdlnnjgjfngccaaF0
import Derived.Test.YtdlnnjgjfngccaaF30
import Derived.Test.YtdlnnjgjfngccaaF8
import Derived.Test.YtdlnnjgjfngccaaF9
namespace Go.Proofs.Ytdlnnjgjfngccaa.F
open Go.RowKit Go.Proofs.YtdlnnjgjfngccaaW.PrintWords Go.Proofs.YtdlnnjgjfngccaaW.PrintLast Go.Proofs.YtdlnnjgjfngccaaW.PrintMore
attribute [local go_sem] max2_int min2_int max_two min_two max_three min_three max_four min_four
set_option linter.unusedVariables false
set_option linter.unusedSimpArgs false

/-! ### impl_WayReach: function 68 -/
mutual
def impl_WayReach.j0 : Nat → Int → List Bool → Bool → Int → List (S73) → Option (List Bool)
 | 0, _, _, _, _, _ => none
 | k + 1, x1, x5, x17, x1078000, x1078001 => if x17 = true then (some x5) else ((impl_Net_parts.f k x1078000 x1078001).bind fun t1083 => (impl_WayReach.l0 k x1 x5 t1083 (t1083.length : Int) 0))
def impl_WayReach.l0 : Nat → Int → List Bool → List Int → Int → Int → Option (List Bool)
 | 0, _, _, _, _, _ => none
 | k + 1, x1, x5, x6, x22, x23 => if x23 < x22 then (if 0 ≤ x23 then (if x23 < (x6.length : Int) then (if 0 ≤ x1 then (if x1 < (x6.length : Int) then (if x5.length < 140737488355328 then (impl_WayReach.l0 k x1 (x5 ++ [((rd x6 x23) == (rd x6 x1))]) x6 x22 (wrap64 (x23 + 1))) else (none)) else (none)) else (none)) else (none)) else (none)) else (some x5)
end
def impl_WayReach.f (k : Nat) (a0_0 : Int) (l0_1 : List (S73)) (a1 : Int) : Option (List Bool) := (some (([] : List Bool) : List Bool)).bind fun y1078 => ((impl_NetOk.f k a0_0 l0_1).bind fun t1081 => (if t1081 = true then ((impl_Net_knot.f a0_0 l0_1 a1).bind fun t1082 => (impl_WayReach.j0 k a1 y1078 (!t1082) a0_0 l0_1)) else (impl_WayReach.j0 k a1 y1078 true a0_0 l0_1)))
theorem impl_WayReach.mono_l : ∀ k, (∀ a b c d e, LeO (impl_WayReach.j0 k a b c d e) (impl_WayReach.j0 (k + 1) a b c d e)) ∧ (∀ a b c d e, LeO (impl_WayReach.l0 k a b c d e) (impl_WayReach.l0 (k + 1) a b c d e))
 | 0 => ⟨fun _ _ _ _ _ r h => by simp [impl_WayReach.j0] at h, fun _ _ _ _ _ r h => by simp [impl_WayReach.l0] at h⟩
 | k + 1 => by
  obtain ⟨ih0, ih1⟩ := impl_WayReach.mono_l k; refine ⟨?_, ?_⟩
  ·intro a b c d e; unfold impl_WayReach.j0; have f := @impl_NetOk.mono; have g := @impl_Net_parts.mono; exact mo_
  ·intro a b c d e; unfold impl_WayReach.l0; have f := @impl_NetOk.mono; have g := @impl_Net_parts.mono; exact mo_
theorem impl_WayReach.mono : ∀ a b c k, LeO (impl_WayReach.f k a b c) (impl_WayReach.f (k + 1) a b c) := by
 intro a b c k; obtain ⟨ih0, ih1⟩ := impl_WayReach.mono_l k; unfold impl_WayReach.f; have m0_ := @impl_NetOk.mono; have m1_ := @impl_Net_parts.mono; exact mo_
def impl_WayReach.T8 : Bool × List (List Nat × List Nat) := (true, [([], []), ([], []), ([], []), ([1, 2], [1, 2]), ([3], [3]), ([], []), ([], []), ([5, 6], [5, 6]), ([7], [7]), ([4, 8], [4, 8]), ([9], [9]), ([0, 10], [0, 10]), ([11, 11, 0, 1, 2, 3, 4, 5, 6, 7, 8, 9, 10, 11], [0, 11])])
def impl_WayReach.B8 : List Nat := [0, 0, 0, 6, 14, 0, 0, 96, 224, 510, 1022, 2047, 4095]
theorem impl_WayReach.tab8 : rtab .any (opsOf Try.f68 8) = impl_WayReach.T8 := by kernel_rfl
theorem impl_WayReach.bits8 : waitsOk impl_WayReach.T8.2 impl_WayReach.B8 = true := by kernel_rfl
set_option maxHeartbeats 8000000 in
set_option maxRecDepth 100000 in
theorem impl_WayReach.calls (k : Nat) (c : Int) (o : Option Addr) (p : Nat) (b : List (S73)) (d : Int) (r : List Bool) (w : World) (W : Kd.C k73 w o b.length b) (X : b.length ≤ p) (h : impl_WayReach.f k c b d = some r) :
  Calls Try.prog 68 #[.agg #[.int .i64 c, .slice o b.length p], .int .i64 d] w fun e w' => ∃ Y : Value, e = .returned (Y) ∧ Kd.R Kd.bool 4 w' w.heap.size (fun _ => True) Y r ∧ Below w.heap.size w w' := by
 have hu34 := Try.underlying34; have D := am W; have E := am X; clear W X; have HB := am (Below.refl w.heap.size w)
 have H : ((some (([] : List Bool) : List Bool)).bind fun q => ((impl_NetOk.f k c b).bind fun y => (if y = true then ((impl_Net_knot.f c b d).bind fun t => (impl_WayReach.j0 k d q (!t) c b)) else (impl_WayReach.j0 k d q true c b)))) = some r := h
 clear h; obtain ⟨q, I⟩ : ∃ y_ : List Bool, y_ = (([] : List Bool)) := ⟨_, rfl⟩; replace H : ((impl_NetOk.f k c b).bind fun y => (if y = true then ((impl_Net_knot.f c b d).bind fun t => (impl_WayReach.j0 k d q (!t) c b)) else (impl_WayReach.j0 k d q true c b))) = some r := nh_ I H; have Z := am I; clear I; have J := am H; clear H; go_enter Try.func68, Try.ntmps68
 go_upto_region 2 with (first | ((with_reducible refine gate_dst (N := 2) rfl ?_); refine bx_ 2 #[.int .i64 c, .slice o b.length p] 34 HB ?_; clear HB; intro aa hg w4 hb a GW1077 HB; clear hb hg) | ((with_reducible refine gate_dst (N := 8) rfl ?_); refine Kd.R_lit Kd.bool _ 4 ?hg (N := 8) ?hd (xs := ([] : List Bool)) (inner := []) (ok := fun _ => True) (okp := fun _ => True) ?hr ?hp (fun _ hk => hk) trivial (Below.refl _ _) (Nat.le_refl _) (by simp) ?_; (case hd => rfl); (case hg => rfl); (case hr => first | (go_simp; done) | (go_simp; rfl)); (case hp => exact (Reps.none _ _)); intro v1079 w5 z hb hg_ hnew_; clear hg_ hnew_; (first | rw [← Z.out] at z | (simp only [Int.reduceToNat] at z; rw [← Z.out] at z)); have s := am (Kd.R_lower z (below_size (bn HB))); replace a := bb a hb; replace HB := bs HB hb; clear hb z))
 (try simp only [Act.put, List.setIfInBounds_toArray, List.set_cons_zero, List.set_cons_succ])
 go_cut [17] (fun v17 wc => ∃ (kq : Nat) (G : Bool), v17 = .bool G ∧ Aside0 (impl_WayReach.j0 kq d q G c b = some r) ∧ Aside0 (kq ≤ k) ∧ Aside0 (Kd.R Kd.bool 4 wc w.heap.size (fun _ => True) v1079 q) ∧ Bk wc aa (.cells #[.int .i64 c, (.slice o b.length p)] 34 (0, 0)) ∧ Aside0 (Below w.heap.size w wc))
 case first =>
  have H := J.out; clear J; replace H := bi_ H; obtain ⟨y, A7, H⟩ := H; (try dsimp only at H); by_cases u : y = true
  ·subst u; rw [if_pos rfl] at H; replace H := bi_ H; obtain ⟨t, A9, H⟩ := H; (try dsimp only at H); have H' := am H; clear H; have hcz10 := c2 a
   go_wp2_with (first | ((with_reducible refine gate_callee (f := 91) rfl ?_); refine gl_ (some 10) Try.func91 #[.agg #[.int .i64 c, .slice o b.length p]] ?_; (with_reducible refine (impl_NetOk.calls k c _ _ b true _ ?z_1 ?z_2 A7.out).mono ?_); (case z_1 => exact cb D HB); (case z_2 => exact E.out); rintro e w11 ⟨rfl, hb⟩; refine ⟨_, rfl, ?_⟩; replace s := am (Kd.R_below (onR s) hb); replace a := bb a hb; replace HB := bs HB hb; (try clear hb); have hcz12 := c2 a) | (go_at_call 120; (with_reducible refine (impl_Net_knot.calls c _ _ b d t _ ?z_1 ?z_2 A9.out).mono ?_); (case z_1 => exact cb D HB); (case z_2 => exact E.out); rintro e w13 ⟨rfl, hb⟩; replace s := am (Kd.R_below (onR s) hb); replace a := bb a hb; replace HB := bs HB hb; (try clear hb); (try clear hi)))
   go_meet
   case rel => exact ⟨_, (!t), rs_, H', ⟨by first | omega | exact Nat.le_refl _⟩, ⟨onR s⟩, ⟨bkn a⟩, ⟨bn HB⟩⟩
  ·replace u := Bool.eq_false_iff.mpr u; subst u; rw [if_neg (show ¬ (false = true) by decide)] at H; have H' := am H; clear H; have hcz14 := c2 a
   go_wp2_with (first | ((with_reducible refine gate_callee (f := 91) rfl ?_); refine gl_ (some 10) Try.func91 #[.agg #[.int .i64 c, .slice o b.length p]] ?_; (with_reducible refine (impl_NetOk.calls k c _ _ b false _ ?z_1 ?z_2 A7.out).mono ?_); (case z_1 => exact cb D HB); (case z_2 => exact E.out); rintro e w15 ⟨rfl, hb⟩; refine ⟨_, rfl, ?_⟩; replace s := am (Kd.R_below (onR s) hb); replace a := bb a hb; replace HB := bs HB hb; (try clear hb); (try clear hi)))
   go_meet
   case rel => exact ⟨_, (true), rs_, H', ⟨by first | omega | exact Nat.le_refl _⟩, ⟨onR s⟩, ⟨bkn a⟩, ⟨bn HB⟩⟩
 case rest =>
  clear J; (try clear p2); (try clear c6); (try clear u); (try clear c9); (try clear hcz10); (try clear hcz12); (try clear hcz14); obtain ⟨kq, G, rfl, HA, HJ2, l, a, HB⟩ := hcut; cases kq with
  | zero => exact absurd HA.out (by simp [impl_WayReach.j0])
  | succ kj2 =>
   have H := HA.out; clear HA; simp only [impl_WayReach.j0] at H; by_cases A : G = true
   ·subst A; rw [if_pos rfl] at H; obtain rfl := Option.some.inj H; go_wp2
    go_ret
    exact ⟨_, er_, onR l, bn HB⟩
   ·replace A := Bool.eq_false_iff.mpr A; subst A; rw [if_neg (show ¬ (false = true) by decide)] at H; replace H := bi_ H; obtain ⟨g, A17, H⟩ := H; (try dsimp only at H); have H' := am H; clear H; have hcz18 := c2 a
    go_wp2_with (first | ((with_reducible refine gate_callee (f := 121) rfl ?_); refine gl_ (some 20) Try.func121 #[.agg #[.int .i64 c, .slice o b.length p]] ?_; (with_reducible refine (impl_Net_parts.calls kj2 c _ _ b g _ ?z_1 ?z_2 A17.out).mono ?_); (case z_1 => exact cb D HB); (case z_2 => exact E.out); rintro e w19 ⟨v1084, rfl, ho0, hb⟩; refine ⟨_, rfl, ?_⟩; replace l := am (Kd.R_below (onR l) hb); have HO1085 := am (Kd.R_lower ho0 (below_size (bn HB))); replace a := bb a hb; replace HB := bs HB hb; (try clear hb); (try clear ho0); obtain ⟨Ao20, co20, eo20⟩ := Kd.R_slice HO1085.out; subst eo20))
    go_loopg [5, 23] kj2 (fun kq v5 v23 w' => ∃ (B : List Bool) (m : Int), v23 = .int .i64 m ∧ Aside0 (impl_WayReach.l0 kq d B g (g.length : Int) m = some r) ∧ Aside0 (kq ≤ kj2) ∧ Aside0 (Kd.R Kd.bool 4 w' w.heap.size (fun _ => True) v5 B) ∧ Aside0 (Kd.R (Kd.int .i64) 3 w' w.heap.size (fun _ => True) (.slice Ao20 g.length co20) g) ∧ Bk w' aa (.cells #[.int .i64 c, (.slice o b.length p)] 34 (0, 0)) ∧ Aside0 (Below w.heap.size w w'))
    case atStart => exact ⟨(q), (0), rs_, H', ⟨Nat.le_refl _⟩, ⟨onR l⟩, ⟨onR HO1085⟩, ⟨bkn a⟩, ⟨bn HB⟩⟩
    case round =>
     clear H'; (try clear c1); (try clear p2); (try clear c6); (try clear u); (try clear c9); (try clear c12); (try clear A); (try clear hcz10); (try clear hcz12); (try clear hcz14); (try clear hcz18); (try clear p2); obtain ⟨B, m, rfl, HA, HK2, l, n, a, HB⟩ := hrel; cases gk with
     | zero => exact absurd HA.out (by simp [impl_WayReach.l0])
     | succ k2 =>
      have H := HA.out; clear HA; simp only [impl_WayReach.l0] at H; by_cases x : m < (g.length : Int)
      ·rw [if_pos x] at H; have c21b0 := decide_eq_true x; clear x; obtain ⟨c22b0, H⟩ := id_ H; obtain ⟨c23b0, H⟩ := id_ H; obtain ⟨c24b0, H⟩ := id_ H; obtain ⟨c25b0, H⟩ := id_ H; obtain ⟨c26, H⟩ := ig_ H; have LMc26 := am c26; clear c26; obtain ⟨y1088, L⟩ : ∃ y_ : List Bool, y_ = (B ++ [((rd g m) == (rd g d))]) := ⟨_, rfl⟩; replace H : (impl_WayReach.l0 k2 d y1088 g (g.length : Int) (wrap64 (m + 1))) = some r := nh_ L H; have Ny1088 := am L; clear L; have H' := am H; clear H; try go_wp2
       replace l := dR l; replace n := dR n; replace a := dB a; replace HB := dL HB; have M : 0 ≤ (m : Int) := oa; have O : m < (g.length : Int) := oa; obtain ⟨ad1086, e1086, hx1086_0⟩ := Kd.at_int (Kd.R_reads' n.out).2.2 m M O; cases e1086; replace M := eq_true M; replace O := eq_true O; have P : 0 ≤ (d : Int) := oa; have T : d < (g.length : Int) := oa; obtain ⟨ad1087, e1087, hx1087_0⟩ := Kd.at_int (Kd.R_reads' n.out).2.2 d P T; obtain rfl : ad1086 = ad1087 := (by injection e1087); replace P := eq_true P; replace T := eq_true T; refine s2_ 13 [10, 11] hx1086_0 hx1087_0 (fun U => ?_); refine with_tabW impl_WayReach.tab8 impl_WayReach.bits8 (fun j HW_ => ?_); generalize wr.drew = w27 at l n a HB hx1086_0 hx1087_0 U ⊢; refine pz_ 0 j ?_; refine pz_ 1 j ?_; refine pz_ 2 j ?_; refine pz_ 3 j ?_; refine pz_ 5 j ?_; refine pz_ 6 j ?_; refine pz_ 7 j ?_; refine tz_ 4 j HW_ U ?_; refine tz_ 8 j HW_ U ?_; refine pz_ 9 j ?_; refine last_ (i := 10) (N := some 36) #[true, true, true, true, true, true, true, true, true, true, true, false, false] rfl rfl (one_of j.out (by kernel_rfl)) (by decide) (fun K hK => ?_); refine value_ (w1 := ?_) (v := ?_) (by rfl) rfl ?_ ?_
       rotate_left 2
       ·go_simp
        constructor
        ·rfl
        ·rfl
       refine hK.out _ _ ?_; clear hK K; refine nz_ 36 ?_; refine last_ (i := 11) (N := some 37) #[true, true, true, true, true, true, true, true, true, true, true, true, false] rfl rfl (one_of j.out (by kernel_rfl)) (by decide) (fun K hK => ?_); refine Kd.R_append_step Kd.bool (w0 := w) w.heap.size (by rfl) (.tmp 26) (.tmp 36) 69 4 (.bool false) 1 rfl Try.underlying69 info4 rfl (by decide) (by omega) u5 B ((rd g m) == (rd g d)) [.bool ((rd g m) == (rd g d))] (fun _ => True) (fun _ => False) rfl rfl ?aP (fun _ hk => hk.elim) ?aF ?aO ?aB ?aS ?aL ?_; (case aP => exact rfl); (case aB => exact (bn HB)); (case aF => exact (fun _ _ => trivial)); (case aO => exact (onR l)); (case aS => exact (below_size (bn HB))); (case aL => have := LMc26.out; omega); intro v1089 w28 ho hb hg hat; rw [← Ny1088.out] at ho; have n0_ := am (Kd.R_over' (onR n) (Kd.R_typed (onR l)) (by decide) hg); have n1_ := bm (blk_grown (bkn a) hg (Kd.R_ne l.out a.out (by decide))); have n2_ := am hb; have n3_ := am ho; clear n a HB l; have n := n0_; have a := n1_; have HB := n2_; have HO1090 := n3_; clear n0_ n1_ n2_ n3_ ho hb hg hat; refine hK.out _ _ ?_; clear hK K; refine nz_ 37 ?_; refine pz_ 12 j ?_; refine done_ (done_of j.out (by kernel_rfl)) ?_; try go_wp2
       go_roundg k2
       case measure => have := HJ2.out; have := HK2.out; omega
       case rel => exact ⟨(y1088), (wrap64 (m + 1)), rs_, H', ⟨by have := HJ2.out; have := HK2.out; omega⟩, ⟨onR HO1090⟩, ⟨onR n⟩, ⟨bkn a⟩, ⟨bn HB⟩⟩
      ·rw [if_neg x] at H; have c21b0 := decide_eq_false x; clear x; obtain rfl := Option.some.inj H; go_wp2
       go_ret
       exact ⟨_, er_, onR l, bn HB⟩

end Go.Proofs.Ytdlnnjgjfngccaa.F
