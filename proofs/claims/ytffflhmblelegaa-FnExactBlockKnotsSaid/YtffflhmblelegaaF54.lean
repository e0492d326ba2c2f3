-- By oprint.py.
import Derived.Test.YtffflhmblelegaaF0
import Derived.Test.YtffflhmblelegaaF34
import Derived.Test.YtffflhmblelegaaF5
namespace Go.Proofs.Ytffflhmblelegaa.F
open Go.RowKit Go.Proofs.YtffflhmblelegaaW.PrintWords Go.Proofs.YtffflhmblelegaaW.PrintLast Go.Proofs.YtffflhmblelegaaW.PrintMore
attribute [local go_sem] max2_int min2_int max_two min_two max_three min_three max_four min_four
set_option linter.unusedVariables false
set_option linter.unusedSimpArgs false

/-! ### spec_BlockKnots: function 41 -/
mutual
def spec_BlockKnots.l0 : Nat → List (List Int) → List (List (S52)) → Int → Int → List (S52) → Option ((List (List Int)))
 | 0, _, _, _, _, _ => none
 | k + 1, x3, x4, x5, x1297000, x1297001 => if x5 < (x4.length : Int) then (spec_BlockKnots.l1 k x3 x4 x5 (([] : List Int)) 0 x1297000 x1297001) else (some x3)
def spec_BlockKnots.l1 : Nat → List (List Int) → List (List (S52)) → Int → List Int → Int → Int → List (S52) → Option ((List (List Int)))
 | 0, _, _, _, _, _, _, _ => none
 | k + 1, x3, x4, x5, x6, x7, x1297000, x1297001 => if x7 < x1297000 then (spec_BlockKnots.l2 k x3 x4 x5 x6 x7 0 x1297000 x1297001) else (if x3.length < 5864062014805 then (spec_BlockKnots.l0 k (x3 ++ [x6]) x4 (wrap64 (x5 + 1)) x1297000 x1297001) else (none))
def spec_BlockKnots.l2 : Nat → List (List Int) → List (List (S52)) → Int → List Int → Int → Int → Int → List (S52) → Option ((List (List Int)))
 | 0, _, _, _, _, _, _, _, _ => none
 | k + 1, x3, x4, x5, x6, x7, x8, x1297000, x1297001 => if 0 ≤ x5 then (if x5 < (x4.length : Int) then (if x8 < ((rd_L4 x4 x5).length : Int) then ((spec_l2Has.f k x6 x7).bind fun t1310 => (if t1310 = true then (spec_BlockKnots.l2 k x3 x4 x5 x6 x7 (wrap64 (x8 + 1)) x1297000 x1297001) else (if 0 ≤ x8 then (if ((rd_T52 (rd_L4 x4 x5) x8).f0) = x7 then (if x6.length < 17592186044416 then (spec_BlockKnots.l2 k x3 x4 x5 (x6 ++ [x7]) x7 (wrap64 (x8 + 1)) x1297000 x1297001) else (none)) else (if ((rd_T52 (rd_L4 x4 x5) x8).f1) = x7 then (if x6.length < 17592186044416 then (spec_BlockKnots.l2 k x3 x4 x5 (x6 ++ [x7]) x7 (wrap64 (x8 + 1)) x1297000 x1297001) else (none)) else (spec_BlockKnots.l2 k x3 x4 x5 x6 x7 (wrap64 (x8 + 1)) x1297000 x1297001))) else (none)))) else (spec_BlockKnots.l1 k x3 x4 x5 x6 (wrap64 (x7 + 1)) x1297000 x1297001)) else (none)) else (none)
end
def spec_BlockKnots.f (k : Nat) (a0_0 : Int) (l0_1 : List (S52)) : Option ((List (List Int))) := (spec_BlockList.f k a0_0 l0_1).bind fun t1300 => (spec_BlockKnots.l0 k (([] : List (List Int))) t1300 0 a0_0 l0_1)
theorem spec_BlockKnots.mono_l : ∀ k, (∀ a b c d e, LeO (spec_BlockKnots.l0 k a b c d e) (spec_BlockKnots.l0 (k + 1) a b c d e)) ∧ (∀ a b c d e f g, LeO (spec_BlockKnots.l1 k a b c d e f g) (spec_BlockKnots.l1 (k + 1) a b c d e f g)) ∧ (∀ a b c d e f g i, LeO (spec_BlockKnots.l2 k a b c d e f g i) (spec_BlockKnots.l2 (k + 1) a b c d e f g i))
 | 0 => ⟨fun _ _ _ _ _ r h => by simp [spec_BlockKnots.l0] at h, fun _ _ _ _ _ _ _ r h => by simp [spec_BlockKnots.l1] at h, fun _ _ _ _ _ _ _ _ r h => by simp [spec_BlockKnots.l2] at h⟩
 | k + 1 => by
  obtain ⟨ih0, ih1, ih2⟩ := spec_BlockKnots.mono_l k; refine ⟨?_, ?_, ?_⟩
  ·intro a b c d e; unfold spec_BlockKnots.l0; have j := @spec_BlockList.mono; have l := @spec_l2Has.mono; exact mo_
  ·intro a b c d e f g; unfold spec_BlockKnots.l1; have j := @spec_BlockList.mono; have l := @spec_l2Has.mono; exact mo_
  ·intro a b c d e f g i; unfold spec_BlockKnots.l2; have j := @spec_BlockList.mono; have l := @spec_l2Has.mono; exact mo_
theorem spec_BlockKnots.mono : ∀ a b k, LeO (spec_BlockKnots.f k a b) (spec_BlockKnots.f (k + 1) a b) := by
 intro a b k; obtain ⟨ih0, ih1, ih2⟩ := spec_BlockKnots.mono_l k; unfold spec_BlockKnots.f; have m0_ := @spec_BlockList.mono; have m1_ := @spec_l2Has.mono; exact mo_
set_option maxHeartbeats 8000000 in
set_option maxRecDepth 100000 in
theorem spec_BlockKnots.calls (k : Nat) (s : Int) (aj : Option Addr) (ak : Nat) (p : List (S52)) (r : List (List Int)) (w : World) (bg : Kd.C k52 w aj p.length p) (bh : p.length ≤ ak) (h : spec_BlockKnots.f k s p = some r) :
  Calls Try.prog 41 #[.agg #[.int .i64 s, .slice aj p.length ak]] w fun e w' => ∃ bi : Value, e = .returned (bi) ∧ Kd.S (Kd.slice 3 (Kd.int .i64)) 30 w' w.heap.size (fun _ => True) bi r ∧ Below w.heap.size w w' := by
 have cx := Try.underlying25; have bS := am bg; have bT := am bh; clear bg bh; have HB := am (Below.refl w.heap.size w)
 have H : ((spec_BlockList.f k s p).bind fun c => (spec_BlockKnots.l0 k (([] : List (List Int))) c 0 s p)) = some r := h
 clear h; obtain ⟨bj, aX⟩ : ∃ y_ : List (List Int), y_ = (([] : List (List Int))) := ⟨_, rfl⟩; replace H : ((spec_BlockList.f k s p).bind fun c => (spec_BlockKnots.l0 k bj c 0 s p)) = some r := nh_ aX H; have bk := am aX; clear aX; obtain ⟨c, A2, H⟩ := bi_ H; have H' := am H; clear H; go_enter Try.func41, Try.ntmps41
 go_wp2_with (first | ((with_reducible refine gate_dst (N := 1) rfl ?_); refine bx_ 1 #[.int .i64 s, .slice aj p.length ak] 25 HB ?_; clear HB; intro aY hg w3 hb l cy HB; clear hb hg) | ((with_reducible refine gate_dst (N := 9) rfl ?_); refine Kd.S_lit (Kd.slice 3 (Kd.int .i64)) _ 30 ?hg (N := 9) ?hd (xs := ([] : List (List Int))) (inner := []) (ok := fun _ => True) (okp := fun _ => True) ?hr ?hp (fun _ hk => hk) trivial (Below.refl _ _) (Nat.le_refl _) (by simp) ?_; (case hd => rfl); (case hg => rfl); (case hr => first | (go_simp; done) | (go_simp; rfl)); (case hp => exact (Reps.none _ _)); intro cz w4 az hb aZ a0; clear aZ a0; (first | rw [← bk.out] at az | (simp only [Int.reduceToNat] at az; rw [← bk.out] at az)); have a1 := am (Kd.S_lower az (below_size (bn HB))); replace l := bb l hb; replace HB := bs HB hb; clear hb az; have a2 := c2 l) | ((with_reducible refine gate_callee (f := 20) rfl ?_); refine gl_ (some 11) Try.func20 #[.agg #[.int .i64 s, .slice aj p.length ak]] ?_; (with_reducible refine (spec_BlockList.calls k s _ _ p c _ ?z_1 ?z_2 A2.out).mono ?_); (case z_1 => exact cb bS HB); (case z_2 => exact bT.out); rintro e w7 ⟨bU, rfl, bl, hb⟩; refine ⟨_, rfl, ?_⟩; replace a1 := am (Kd.S_below (onS a1) hb); have bV := am (Kd.S_lower bl (below_size (bn HB))); replace l := bb l hb; replace HB := bs HB hb; (try clear hb bl)))
 go_loopg [3, 5] k (fun kq v3 v5 w' => ∃ (G : List (List Int)) (a : Int), v5 = .int .i64 a ∧ Aside0 (spec_BlockKnots.l0 kq G c a s p = some r) ∧ Aside0 (kq ≤ k) ∧ Aside0 (Kd.S (Kd.slice 3 (Kd.int .i64)) 30 w' w.heap.size (fun _ => True) v3 G) ∧ Aside0 (Kd.S (Kd.slice 52 k52) 23 w' w.heap.size (fun _ => True) bU c) ∧ Bk w' aY (.cells #[.int .i64 s, (.slice aj p.length ak)] 25 (0, 0)) ∧ Aside0 (Below w.heap.size w w'))
 case atStart => exact ⟨(bj), (0), rs_, H', ⟨Nat.le_refl _⟩, ⟨onS a1⟩, ⟨onS bV⟩, ⟨bkn l⟩, ⟨bn HB⟩⟩
 case round =>
  clear H'; (try clear c2 a2); obtain ⟨G, a, rfl, HA, I, q, d, l, HB⟩ := hrel; cases gk with
  | zero => exact absurd HA.out (by simp [spec_BlockKnots.l0])
  | succ k1 =>
   have H := HA.out; clear HA; simp only [spec_BlockKnots.l0] at H; by_cases c8 : a < (c.length : Int)
   ·rw [if_pos c8] at H; have a3 := decide_eq_true c8; clear c8; obtain ⟨bo, a4⟩ : ∃ y_ : List Int, y_ = (([] : List Int)) := ⟨_, rfl⟩; replace H : (spec_BlockKnots.l1 k1 G c a bo 0 s p) = some r := nh_ a4 H; have bp := am a4; clear a4; have H' := am H; clear H; obtain ⟨br, bu, bW⟩ := Kd.S_slice d.out; subst bW
    go_wp2_with (first | ((with_reducible refine gate_dst (N := 18) rfl ?_); refine Kd.R_lit (Kd.int .i64) _ 3 ?hg (N := 18) ?hd (xs := ([] : List Int)) (inner := []) (ok := fun _ => True) (okp := fun _ => True) ?hr ?hp (fun _ hk => hk) trivial (Below.refl _ _) (Nat.le_refl _) (by simp) ?_; (case hd => rfl); (case hg => rfl); (case hr => first | (go_simp; done) | (go_simp; rfl)); (case hp => exact (Reps.none _ _)); intro cA w10 aw hb aZ a0; clear aZ a0; (first | rw [← bp.out] at aw | (simp only [Int.reduceToNat] at aw; rw [← bp.out] at aw)); replace q := am (Kd.S_elder' (onS q) (Kd.R_base aw) hb); replace d := am (Kd.S_below (onS d) hb); have bX := am (Kd.R_lower aw (below_size (bn HB))); replace l := bb l hb; replace HB := bs HB hb; clear hb aw))
    go_loopg [6, 7] k1 (fun kq v6 v7 w' => ∃ (ab : List Int) (j : Int), v7 = .int .i64 j ∧ Aside0 (spec_BlockKnots.l1 kq G c a ab j s p = some r) ∧ Aside0 (kq ≤ k1) ∧ Aside0 (Kd.S (Kd.slice 3 (Kd.int .i64)) 30 w' w.heap.size (fun k_ => some k_ ≠ (v6 : Value).ownBlock) u3 G) ∧ Aside0 (Kd.S (Kd.slice 52 k52) 23 w' w.heap.size (fun _ => True) (.slice br c.length bu) c) ∧ Aside0 (Kd.R (Kd.int .i64) 3 w' w.heap.size (fun _ => True) v6 ab) ∧ Bk w' aY (.cells #[.int .i64 s, (.slice aj p.length ak)] 25 (0, 0)) ∧ Aside0 (Below w.heap.size w w'))
    case atStart => exact ⟨(bo), (0), rs_, H', ⟨Nat.le_refl _⟩, ⟨Kd.S_mono (onS q) (fun _ hk => hk.2)⟩, ⟨onS d⟩, ⟨onR bX⟩, ⟨bkn l⟩, ⟨bn HB⟩⟩
    case round =>
     clear H'; (try clear c2 c8 a3 a2); obtain ⟨ab, j, rfl, HA, J, q, d, i, l, HB⟩ := hrel; cases gk with
     | zero => exact absurd HA.out (by simp [spec_BlockKnots.l1])
     | succ k2 =>
      have H := HA.out; clear HA; simp only [spec_BlockKnots.l1] at H; by_cases al : j < s
      ·rw [if_pos al] at H; have bv := decide_eq_true al; clear al; have H' := am H; clear H; have bY := c2 l; go_wp2
       go_loopg [6, 8] k2 (fun kq v6 v8 w' => ∃ (t : List Int) (g : Int), v8 = .int .i64 g ∧ Aside0 (spec_BlockKnots.l2 kq G c a t j g s p = some r) ∧ Aside0 (kq ≤ k2) ∧ Aside0 (Kd.S (Kd.slice 3 (Kd.int .i64)) 30 w' w.heap.size (fun k_ => some k_ ≠ (v6 : Value).ownBlock) u3 G) ∧ Aside0 (Kd.S (Kd.slice 52 k52) 23 w' w.heap.size (fun _ => True) (.slice br c.length bu) c) ∧ Aside0 (Kd.R (Kd.int .i64) 3 w' w.heap.size (fun _ => True) v6 t) ∧ Bk w' aY (.cells #[.int .i64 s, (.slice aj p.length ak)] 25 (0, 0)) ∧ Aside0 (Below w.heap.size w w'))
       case atStart => exact ⟨(ab), (0), rs_, H', ⟨Nat.le_refl _⟩, ⟨onS q⟩, ⟨onS d⟩, ⟨onR i⟩, ⟨bkn l⟩, ⟨bn HB⟩⟩
       case round =>
        clear H'; (try clear c2 c8 a3 al bv bY a2); obtain ⟨t, g, rfl, HA, T, q, d, i, l, HB⟩ := hrel; cases gk with
        | zero => exact absurd HA.out (by simp [spec_BlockKnots.l2])
        | succ k3 =>
         have H := HA.out; clear HA; simp only [spec_BlockKnots.l2] at H; obtain ⟨cB, H⟩ := id_ H; obtain ⟨cC, H⟩ := id_ H; by_cases ax : g < ((rd_L4 c a).length : Int)
         ·rw [if_pos ax] at H; have bZ := decide_eq_true ax; clear ax; obtain ⟨b0, aN, H⟩ := bi_ H; by_cases bw : b0 = true
          ·subst bw; rw [if_pos rfl] at H; have H' := am H; clear H; have n : 0 ≤ (a : Int) := oa; have o : a < (c.length : Int) := oa; obtain ⟨U, aQ, aR, W, y, z, A⟩ := at_L4 (Kd.S_reads' d.out).2.2 a n o; cases W; obtain ⟨aT, X, Y, B⟩ := Kd.S_get d.out [] a n (by first | exact o | exact oa | (have K := (Kd.S_reads' d.out).1; omega)); obtain ⟨aU, rfl, u⟩ := Y; have m := B 0 _ rfl; rw [Nat.add_zero, show ((Kd.slice 52 k52)).sz = 1 from rfl, Nat.mul_one] at m; replace m := Option.some.inj (m.symm.trans y); rw [m] at u; have ad := am (show Kd.R k52 52 _ _ _ _ (rd_L4 c a) from u); clear m u B X; have aV := am A; have aW := am z; clear A z; obtain ⟨n, o⟩ := e2_ n o; obtain ⟨b1, b2, b3⟩ := Kd.R_slice i.out; subst b3
           go_wp2_with (first | ((with_reducible refine gate_callee (f := 84) rfl ?_); refine gl_ (some 36) Try.func84 #[.slice b1 t.length b2, .int .i64 j] ?_; (with_reducible refine (spec_l2Has.calls k3 _ _ t j true _ ?z_1 ?z_2 aN.out).mono ?_); (case z_1 => exact (Kd.R_reads' (onR i)).2.2); (case z_2 => exact (Kd.R_reads' i.out).2.1); rintro e w' ⟨rfl, ⟨nd, rfl⟩⟩; refine ⟨_, rfl, ?_⟩))
           go_roundg k3
           case measure => have := I.out; have := J.out; have := T.out; omega
           case rel => exact ⟨(t), (wrap64 (g + 1)), rs_, H', ⟨by have := I.out; have := J.out; have := T.out; omega⟩, ⟨onS q⟩, ⟨onS d⟩, ⟨onR i⟩, ⟨bkn l⟩, ⟨bn HB⟩⟩
          ·obtain rfl := nt_ bw; rw [if_neg nf_] at H; obtain ⟨cD, H⟩ := id_ H; by_cases an : ((rd_T52 (rd_L4 c a) g).f0) = j
           ·rw [if_pos an] at H; have b4 : (((rd_T52 (rd_L4 c a) g).f0) == j) = true := beq_iff_eq.mpr an; have b5 : (((rd_T52 (rd_L4 c a) g).f0) != j) = false := bne_eq_false_iff_eq.mpr an; clear an; obtain ⟨bx, H⟩ := ig_ H; have b6 := am bx; clear bx; obtain ⟨bz, a5⟩ : ∃ y_ : List Int, y_ = (t ++ [j]) := ⟨_, rfl⟩; replace H : (spec_BlockKnots.l2 k3 G c a bz j (wrap64 (g + 1)) s p) = some r := nh_ a5 H; have b7 := am a5; clear a5; have H' := am H; clear H; have n : 0 ≤ (a : Int) := oa; have o : a < (c.length : Int) := oa; obtain ⟨U, aQ, aR, W, y, z, A⟩ := at_L4 (Kd.S_reads' d.out).2.2 a n o; cases W; obtain ⟨aT, X, Y, B⟩ := Kd.S_get d.out [] a n (by first | exact o | exact oa | (have K := (Kd.S_reads' d.out).1; omega)); obtain ⟨aU, rfl, u⟩ := Y; have m := B 0 _ rfl; rw [Nat.add_zero, show ((Kd.slice 52 k52)).sz = 1 from rfl, Nat.mul_one] at m; replace m := Option.some.inj (m.symm.trans y); rw [m] at u; have ad := am (show Kd.R k52 52 _ _ _ _ (rd_L4 c a) from u); clear m u B X; have aV := am A; have aW := am z; clear A z; obtain ⟨n, o⟩ := e2_ n o; obtain ⟨bA, bB, b8⟩ := Kd.R_slice i.out; subst b8
            go_wp2_with (first | ((with_reducible refine gate_callee (f := 84) rfl ?_); refine gl_ (some 36) Try.func84 #[.slice bA t.length bB, .int .i64 j] ?_; (with_reducible refine (spec_l2Has.calls k3 _ _ t j false _ ?z_1 ?z_2 aN.out).mono ?_); (case z_1 => exact (Kd.R_reads' (onR i)).2.2); (case z_2 => exact (Kd.R_reads' i.out).2.1); rintro e w' ⟨rfl, ⟨nd, rfl⟩⟩; refine ⟨_, rfl, ?_⟩; have D : 0 ≤ (a : Int) := oa; have E : a < (c.length : Int) := oa; obtain ⟨aA, bC, bD, aC, ae, af, ag⟩ := at_L4 (Kd.S_reads' d.out).2.2 a D E; obtain rfl : U = aA := (by injection aC); obtain ⟨bE, aD, aE, ah⟩ := Kd.S_get d.out [] a D (by first | exact E | exact oa | (have K := (Kd.S_reads' d.out).1; omega)); obtain ⟨bF, rfl, L⟩ := aE; have x := ah 0 _ rfl; rw [Nat.add_zero, show ((Kd.slice 52 k52)).sz = 1 from rfl, Nat.mul_one] at x; replace x := Option.some.inj (x.symm.trans ae); rw [x] at L; have ay := am (show Kd.R k52 52 _ _ _ _ (rd_L4 c a) from L); clear x L; clear ah aD; have ai := am ag; have bG := am af; clear ag af; obtain ⟨D, E⟩ := e2_ D E; have ea_ := Option.some.inj (y.symm.trans ae); injection ea_ with ea_ en_ ec_; subst ea_; subst ec_; clear en_; have M : 0 ≤ (g : Int) := oa; have O : g < ((rd_L4 c a).length : Int) := oa; obtain ⟨bH, aG, bI, bJ⟩ := at_T52 (by repeat (first | (with_reducible exact ai.out) | (with_reducible refine Kd.C_alloc ?_ _) | (with_reducible refine Kd.C_drewN ?_ _) | (with_reducible refine Kd.C_drew ?_) | exact ai.out)) g M O; cases aG; obtain ⟨M, O⟩ := e2_ M O) | ((with_reducible refine gate_builtin (b := .append) (xs := #[.tmp 62, .tmp 64]) rfl ?_); at_builtin; refine Kd.R_append (Kd.int .i64) (w0 := w) w.heap.size rfl (.tmp 62) (.tmp 64) 30 3 (.int .i64 0) 8 rfl Try.underlying30 info3 rfl (by decide) (by omega) (.slice bA t.length bB) t j [.int .i64 j] (fun _ => True) (fun _ => False) rfl rfl ?aP (fun _ hk => hk.elim) ?aF ?aO ?aB ?aS ?aL ?_; (case aP => exact rfl); (case aB => exact (bn HB)); (case aF => exact (fun _ _ => trivial)); (case aO => exact (onR i)); (case aS => exact (below_size (bn HB))); (case aL => have := b6.out; omega); intro cE w24 ho hb hg ap; rw [← b7.out] at ho; replace q := am (Kd.S_after (ok := (fun _ => True)) (Kd.S_mono (onS q) (fun _ hk => ⟨trivial, hk⟩)) hg ap); replace d := am (Kd.S_over' (onS d) (Kd.R_typed (onR i)) (by decide) hg); replace l := bm (blk_grown (bkn l) hg (Kd.R_ne i.out l.out (by decide))); replace ad := am (Kd.R_over' (onR ad) (Kd.R_typed (onR i)) (by decide) hg); replace ay := am (Kd.R_over' (onR ay) (Kd.R_typed (onR i)) (by decide) hg); replace HB := am hb; have b9 := am ho; clear i; clear ho hb hg ap))
            go_roundg k3
            case measure => have := I.out; have := J.out; have := T.out; omega
            case rel => exact ⟨(bz), (wrap64 (g + 1)), rs_, H', ⟨by have := I.out; have := J.out; have := T.out; omega⟩, ⟨Kd.S_mono (onS q) (fun _ hk => hk.2)⟩, ⟨onS d⟩, ⟨onR b9⟩, ⟨bkn l⟩, ⟨bn HB⟩⟩
           ·rw [if_neg an] at H; have b4 : (((rd_T52 (rd_L4 c a) g).f0) == j) = false := beq_eq_false_iff_ne.mpr an; have b5 : (((rd_T52 (rd_L4 c a) g).f0) != j) = true := bne_iff_ne.mpr an; by_cases aq : ((rd_T52 (rd_L4 c a) g).f1) = j
            ·rw [if_pos aq] at H; have ca : (((rd_T52 (rd_L4 c a) g).f1) == j) = true := beq_iff_eq.mpr aq; have cc : (((rd_T52 (rd_L4 c a) g).f1) != j) = false := bne_eq_false_iff_eq.mpr aq; clear aq; obtain ⟨bK, H⟩ := ig_ H; have cd := am bK; clear bK; obtain ⟨bL, a6⟩ : ∃ y_ : List Int, y_ = (t ++ [j]) := ⟨_, rfl⟩; replace H : (spec_BlockKnots.l2 k3 G c a bL j (wrap64 (g + 1)) s p) = some r := nh_ a6 H; have ce := am a6; clear a6; have H' := am H; clear H; have n : 0 ≤ (a : Int) := oa; have o : a < (c.length : Int) := oa; obtain ⟨U, aQ, aR, W, y, z, A⟩ := at_L4 (Kd.S_reads' d.out).2.2 a n o; cases W; obtain ⟨aT, X, Y, B⟩ := Kd.S_get d.out [] a n (by first | exact o | exact oa | (have K := (Kd.S_reads' d.out).1; omega)); obtain ⟨aU, rfl, u⟩ := Y; have m := B 0 _ rfl; rw [Nat.add_zero, show ((Kd.slice 52 k52)).sz = 1 from rfl, Nat.mul_one] at m; replace m := Option.some.inj (m.symm.trans y); rw [m] at u; have ad := am (show Kd.R k52 52 _ _ _ _ (rd_L4 c a) from u); clear m u B X; have aV := am A; have aW := am z; clear A z; obtain ⟨n, o⟩ := e2_ n o; obtain ⟨bM, bN, cf⟩ := Kd.R_slice i.out; subst cf
             go_wp2_with (first | ((with_reducible refine gate_callee (f := 84) rfl ?_); refine gl_ (some 36) Try.func84 #[.slice bM t.length bN, .int .i64 j] ?_; (with_reducible refine (spec_l2Has.calls k3 _ _ t j false _ ?z_1 ?z_2 aN.out).mono ?_); (case z_1 => exact (Kd.R_reads' (onR i)).2.2); (case z_2 => exact (Kd.R_reads' i.out).2.1); rintro e w' ⟨rfl, ⟨nd, rfl⟩⟩; refine ⟨_, rfl, ?_⟩; have D : 0 ≤ (a : Int) := oa; have E : a < (c.length : Int) := oa; obtain ⟨aA, bC, bD, aC, ae, af, ag⟩ := at_L4 (Kd.S_reads' d.out).2.2 a D E; obtain rfl : U = aA := (by injection aC); obtain ⟨bE, aD, aE, ah⟩ := Kd.S_get d.out [] a D (by first | exact E | exact oa | (have K := (Kd.S_reads' d.out).1; omega)); obtain ⟨bF, rfl, L⟩ := aE; have x := ah 0 _ rfl; rw [Nat.add_zero, show ((Kd.slice 52 k52)).sz = 1 from rfl, Nat.mul_one] at x; replace x := Option.some.inj (x.symm.trans ae); rw [x] at L; have ay := am (show Kd.R k52 52 _ _ _ _ (rd_L4 c a) from L); clear x L; clear ah aD; have ai := am ag; have bG := am af; clear ag af; obtain ⟨D, E⟩ := e2_ D E; have ea_ := Option.some.inj (y.symm.trans ae); injection ea_ with ea_ en_ ec_; subst ea_; subst ec_; clear en_; have M : 0 ≤ (g : Int) := oa; have O : g < ((rd_L4 c a).length : Int) := oa; obtain ⟨bH, aG, bI, bJ⟩ := at_T52 (by repeat (first | (with_reducible exact ai.out) | (with_reducible refine Kd.C_alloc ?_ _) | (with_reducible refine Kd.C_drewN ?_ _) | (with_reducible refine Kd.C_drew ?_) | exact ai.out)) g M O; cases aG; obtain ⟨M, O⟩ := e2_ M O; have Z : 0 ≤ (a : Int) := oa; have aa : a < (c.length : Int) := oa; obtain ⟨a7, cg, ch, a8, aH, aI, aJ⟩ := at_L4 (Kd.S_reads' d.out).2.2 a Z aa; obtain rfl : U = a7 := (by injection a8); obtain ⟨ci, a9, ba, aK⟩ := Kd.S_get d.out [] a Z (by first | exact aa | exact oa | (have K := (Kd.S_reads' d.out).1; omega)); obtain ⟨cj, rfl, ar⟩ := ba; have P := aK 0 _ rfl; rw [Nat.add_zero, show ((Kd.slice 52 k52)).sz = 1 from rfl, Nat.mul_one] at P; replace P := Option.some.inj (P.symm.trans aH); rw [P] at ar; have bd := am (show Kd.R k52 52 _ _ _ _ (rd_L4 c a) from ar); clear P ar; clear aK a9; have aM := am aJ; have ck := am aI; clear aJ aI; obtain ⟨Z, aa⟩ := e2_ Z aa; have ea_ := Option.some.inj (y.symm.trans aH); injection ea_ with ea_ en_ ec_; subst ea_; subst ec_; clear en_; have au : 0 ≤ (g : Int) := oa; have av : g < ((rd_L4 c a).length : Int) := oa; obtain ⟨cl, be, cm, cn⟩ := at_T52 (by repeat (first | (with_reducible exact aM.out) | (with_reducible refine Kd.C_alloc ?_ _) | (with_reducible refine Kd.C_drewN ?_ _) | (with_reducible refine Kd.C_drew ?_) | exact aM.out)) g au av; cases be; obtain ⟨au, av⟩ := e2_ au av) | ((with_reducible refine gate_builtin (b := .append) (xs := #[.tmp 62, .tmp 64]) rfl ?_); at_builtin; refine Kd.R_append (Kd.int .i64) (w0 := w) w.heap.size rfl (.tmp 62) (.tmp 64) 30 3 (.int .i64 0) 8 rfl Try.underlying30 info3 rfl (by decide) (by omega) (.slice bM t.length bN) t j [.int .i64 j] (fun _ => True) (fun _ => False) rfl rfl ?aP (fun _ hk => hk.elim) ?aF ?aO ?aB ?aS ?aL ?_; (case aP => exact rfl); (case aB => exact (bn HB)); (case aF => exact (fun _ _ => trivial)); (case aO => exact (onR i)); (case aS => exact (below_size (bn HB))); (case aL => have := cd.out; omega); intro cF w28 ho hb hg ap; rw [← ce.out] at ho; replace q := am (Kd.S_after (ok := (fun _ => True)) (Kd.S_mono (onS q) (fun _ hk => ⟨trivial, hk⟩)) hg ap); replace d := am (Kd.S_over' (onS d) (Kd.R_typed (onR i)) (by decide) hg); replace l := bm (blk_grown (bkn l) hg (Kd.R_ne i.out l.out (by decide))); replace ad := am (Kd.R_over' (onR ad) (Kd.R_typed (onR i)) (by decide) hg); replace ay := am (Kd.R_over' (onR ay) (Kd.R_typed (onR i)) (by decide) hg); replace bd := am (Kd.R_over' (onR bd) (Kd.R_typed (onR i)) (by decide) hg); replace HB := am hb; have co := am ho; clear i; clear ho hb hg ap))
             go_roundg k3
             case measure => have := I.out; have := J.out; have := T.out; omega
             case rel => exact ⟨(bL), (wrap64 (g + 1)), rs_, H', ⟨by have := I.out; have := J.out; have := T.out; omega⟩, ⟨Kd.S_mono (onS q) (fun _ hk => hk.2)⟩, ⟨onS d⟩, ⟨onR co⟩, ⟨bkn l⟩, ⟨bn HB⟩⟩
            ·rw [if_neg aq] at H; have ca : (((rd_T52 (rd_L4 c a) g).f1) == j) = false := beq_eq_false_iff_ne.mpr aq; have cc : (((rd_T52 (rd_L4 c a) g).f1) != j) = true := bne_iff_ne.mpr aq; have H' := am H; clear H; have n : 0 ≤ (a : Int) := oa; have o : a < (c.length : Int) := oa; obtain ⟨U, aQ, aR, W, y, z, A⟩ := at_L4 (Kd.S_reads' d.out).2.2 a n o; cases W; obtain ⟨aT, X, Y, B⟩ := Kd.S_get d.out [] a n (by first | exact o | exact oa | (have K := (Kd.S_reads' d.out).1; omega)); obtain ⟨aU, rfl, u⟩ := Y; have m := B 0 _ rfl; rw [Nat.add_zero, show ((Kd.slice 52 k52)).sz = 1 from rfl, Nat.mul_one] at m; replace m := Option.some.inj (m.symm.trans y); rw [m] at u; have ad := am (show Kd.R k52 52 _ _ _ _ (rd_L4 c a) from u); clear m u B X; have aV := am A; have aW := am z; clear A z; obtain ⟨n, o⟩ := e2_ n o; obtain ⟨cp, cq, cr⟩ := Kd.R_slice i.out; subst cr
             go_wp2_with (first | ((with_reducible refine gate_callee (f := 84) rfl ?_); refine gl_ (some 36) Try.func84 #[.slice cp t.length cq, .int .i64 j] ?_; (with_reducible refine (spec_l2Has.calls k3 _ _ t j false _ ?z_1 ?z_2 aN.out).mono ?_); (case z_1 => exact (Kd.R_reads' (onR i)).2.2); (case z_2 => exact (Kd.R_reads' i.out).2.1); rintro e w' ⟨rfl, ⟨nd, rfl⟩⟩; refine ⟨_, rfl, ?_⟩; have D : 0 ≤ (a : Int) := oa; have E : a < (c.length : Int) := oa; obtain ⟨aA, bC, bD, aC, ae, af, ag⟩ := at_L4 (Kd.S_reads' d.out).2.2 a D E; obtain rfl : U = aA := (by injection aC); obtain ⟨bE, aD, aE, ah⟩ := Kd.S_get d.out [] a D (by first | exact E | exact oa | (have K := (Kd.S_reads' d.out).1; omega)); obtain ⟨bF, rfl, L⟩ := aE; have x := ah 0 _ rfl; rw [Nat.add_zero, show ((Kd.slice 52 k52)).sz = 1 from rfl, Nat.mul_one] at x; replace x := Option.some.inj (x.symm.trans ae); rw [x] at L; have ay := am (show Kd.R k52 52 _ _ _ _ (rd_L4 c a) from L); clear x L; clear ah aD; have ai := am ag; have bG := am af; clear ag af; obtain ⟨D, E⟩ := e2_ D E; have ea_ := Option.some.inj (y.symm.trans ae); injection ea_ with ea_ en_ ec_; subst ea_; subst ec_; clear en_; have M : 0 ≤ (g : Int) := oa; have O : g < ((rd_L4 c a).length : Int) := oa; obtain ⟨bH, aG, bI, bJ⟩ := at_T52 (by repeat (first | (with_reducible exact ai.out) | (with_reducible refine Kd.C_alloc ?_ _) | (with_reducible refine Kd.C_drewN ?_ _) | (with_reducible refine Kd.C_drew ?_) | exact ai.out)) g M O; cases aG; obtain ⟨M, O⟩ := e2_ M O; have Z : 0 ≤ (a : Int) := oa; have aa : a < (c.length : Int) := oa; obtain ⟨a7, cg, ch, a8, aH, aI, aJ⟩ := at_L4 (Kd.S_reads' d.out).2.2 a Z aa; obtain rfl : U = a7 := (by injection a8); obtain ⟨ci, a9, ba, aK⟩ := Kd.S_get d.out [] a Z (by first | exact aa | exact oa | (have K := (Kd.S_reads' d.out).1; omega)); obtain ⟨cj, rfl, ar⟩ := ba; have P := aK 0 _ rfl; rw [Nat.add_zero, show ((Kd.slice 52 k52)).sz = 1 from rfl, Nat.mul_one] at P; replace P := Option.some.inj (P.symm.trans aH); rw [P] at ar; have bd := am (show Kd.R k52 52 _ _ _ _ (rd_L4 c a) from ar); clear P ar; clear aK a9; have aM := am aJ; have ck := am aI; clear aJ aI; obtain ⟨Z, aa⟩ := e2_ Z aa; have ea_ := Option.some.inj (y.symm.trans aH); injection ea_ with ea_ en_ ec_; subst ea_; subst ec_; clear en_; have au : 0 ≤ (g : Int) := oa; have av : g < ((rd_L4 c a).length : Int) := oa; obtain ⟨cl, be, cm, cn⟩ := at_T52 (by repeat (first | (with_reducible exact aM.out) | (with_reducible refine Kd.C_alloc ?_ _) | (with_reducible refine Kd.C_drewN ?_ _) | (with_reducible refine Kd.C_drew ?_) | exact aM.out)) g au av; cases be; obtain ⟨au, av⟩ := e2_ au av))
             go_roundg k3
             case measure => have := I.out; have := J.out; have := T.out; omega
             case rel => exact ⟨(t), (wrap64 (g + 1)), rs_, H', ⟨by have := I.out; have := J.out; have := T.out; omega⟩, ⟨onS q⟩, ⟨onS d⟩, ⟨onR i⟩, ⟨bkn l⟩, ⟨bn HB⟩⟩
         ·rw [if_neg ax] at H; have bZ := decide_eq_false ax; clear ax; have H' := am H; clear H; have n : 0 ≤ (a : Int) := oa; have o : a < (c.length : Int) := oa; obtain ⟨U, aQ, aR, W, y, z, A⟩ := at_L4 (Kd.S_reads' d.out).2.2 a n o; cases W; obtain ⟨aT, X, Y, B⟩ := Kd.S_get d.out [] a n (by first | exact o | exact oa | (have K := (Kd.S_reads' d.out).1; omega)); obtain ⟨aU, rfl, u⟩ := Y; have m := B 0 _ rfl; rw [Nat.add_zero, show ((Kd.slice 52 k52)).sz = 1 from rfl, Nat.mul_one] at m; replace m := Option.some.inj (m.symm.trans y); rw [m] at u; have ad := am (show Kd.R k52 52 _ _ _ _ (rd_L4 c a) from u); clear m u B X; have aV := am A; have aW := am z; clear A z; obtain ⟨n, o⟩ := e2_ n o; go_wp2
          go_roundg k3
          case measure => have := I.out; have := J.out; have := T.out; omega
          case rel => exact ⟨(t), (wrap64 (j + 1)), rs_, H', ⟨by have := I.out; have := J.out; have := T.out; omega⟩, ⟨onS q⟩, ⟨onS d⟩, ⟨onR i⟩, ⟨bkn l⟩, ⟨bn HB⟩⟩
      ·rw [if_neg al] at H; have bv := decide_eq_false al; clear al; obtain ⟨bO, H⟩ := ig_ H; have cs := am bO; clear bO; obtain ⟨bP, bf⟩ : ∃ y_ : List (List Int), y_ = (G ++ [ab]) := ⟨_, rfl⟩; replace H : (spec_BlockKnots.l0 k2 bP c (wrap64 (a + 1)) s p) = some r := nh_ bf H; have ct := am bf; clear bf; have H' := am H; clear H; have cG := c2 l; obtain ⟨bQ, bR, cu⟩ := Kd.R_slice i.out; subst cu
       go_wp2_with (first | ((with_reducible refine gate_builtin (b := .append) (xs := #[.tmp 66, .tmp 68]) rfl ?_); at_builtin; refine Kd.S_append (Kd.slice 3 (Kd.int .i64)) (w0 := w) w.heap.size rfl (.tmp 66) (.tmp 68) 26 30 (.slice none 0 0) 24 rfl Try.underlying26 info30 rfl (by decide) (by omega) u3 G ab [.slice bQ ab.length bR] (fun _ => True) (fun k_ => some k_ = (.slice bQ ab.length bR : Value).ownBlock) rfl rfl ?aP (fun k_ hk_ => ((Kd.R_mono (ok' := fun k_ => ((fun _ => True)) k_ ∧ some k_ ≠ (u3 : Value).ownBlock) (Kd.R_apart' (i.out) (Kd.S_typed q.out) (by decide)) (fun k_ hk => ⟨trivial, hk.2⟩))).1 k_ hk_.symm) ?aF ?aO ?aB ?aS ?aL ?_; (case aP => exact Kd.M_row (Kd.R_mono (Kd.R_tight rfl (Kd.R_mono (ok' := fun k_ => ((fun _ => True)) k_ ∧ some k_ ≠ (u3 : Value).ownBlock) (Kd.R_apart' (i.out) (Kd.S_typed q.out) (by decide)) (fun k_ hk => ⟨trivial, hk.2⟩))) (fun _ h_ => h_))); (case aB => exact (bn HB)); (case aF => exact (fun _ _ => trivial)); (case aO => exact (Kd.S_mono (onS q) (fun k_ hk => ⟨trivial, fun K => hk K⟩))); (case aS => exact (below_size (bn HB))); (case aL => have := cs.out; omega); intro cH w32 ho hb hg ap; rw [← ct.out] at ho; replace d := am (Kd.S_over' (onS d) (Kd.S_typed (onS q)) (by decide) hg); replace l := bm (blk_grown (bkn l) hg (Kd.S_ne q.out l.out (by decide))); replace HB := am hb; have cv := am ho; clear q i; clear ho hb hg ap))
       go_roundg k2
       case measure => have := I.out; have := J.out; omega
       case rel => exact ⟨(bP), (wrap64 (a + 1)), rs_, H', ⟨by have := I.out; have := J.out; omega⟩, ⟨onS cv⟩, ⟨onS d⟩, ⟨bkn l⟩, ⟨bn HB⟩⟩
   ·rw [if_neg c8] at H; have a3 := decide_eq_false c8; clear c8; obtain rfl := Option.some.inj H; obtain ⟨cI, cJ, cw⟩ := Kd.S_slice d.out; subst cw; go_wp2
    go_ret
    exact ⟨_, er_, onS q, bn HB⟩

/-! ### laws_eqIntS: function 89 -/
def laws_eqIntS.l0 : Nat → List Int → List Int → Int → Option (Bool)
 | 0, _, _, _ => none
 | k + 1, x0, x1, x5 => if x5 < (x0.length : Int) then (if 0 ≤ x5 then (if x5 < (x1.length : Int) then (if (rd x0 x5) = (rd x1 x5) then (laws_eqIntS.l0 k x0 x1 (wrap64 (x5 + 1))) else (some false)) else (none)) else (none)) else (some true)
def laws_eqIntS.f (k : Nat) (l0 : List Int) (l1 : List Int) : Option (Bool) := if (l0.length : Int) = (l1.length : Int) then (laws_eqIntS.l0 k l0 l1 0) else (some false)
theorem laws_eqIntS.mono_l : ∀ k, (∀ a b c, LeO (laws_eqIntS.l0 k a b c) (laws_eqIntS.l0 (k + 1) a b c))
 | 0 => fun _ _ _ r h => by simp [laws_eqIntS.l0] at h
 | k + 1 => by
  have ih0 := laws_eqIntS.mono_l k
  ·intro a b c; unfold laws_eqIntS.l0; exact mo_
theorem laws_eqIntS.mono : ∀ a b k, LeO (laws_eqIntS.f k a b) (laws_eqIntS.f (k + 1) a b) := by
 intro a b k; have ih0 := laws_eqIntS.mono_l k; unfold laws_eqIntS.f; exact mo_
set_option maxHeartbeats 8000000 in
set_option maxRecDepth 100000 in
theorem laws_eqIntS.calls (k : Nat) (q : Option Addr) (s : Nat) (l0 : List Int) (t : Option Addr) (n : Nat) (b : List Int) (r : Bool) (w : World) (u : Kd.C (Kd.int .i64) w q l0.length l0) (x : l0.length ≤ s) (y : Kd.C (Kd.int .i64) w t b.length b) (z : b.length ≤ n) (h : laws_eqIntS.f k l0 b = some r) :
  Calls Try.prog 89 #[.slice q l0.length s, .slice t b.length n] w fun e w' => e = .returned (.bool r) ∧ Drawn0 w w' := by
 have A := am u; have HC0 := am x; clear u x; have B := am y; have HC1 := am z; clear y z
 have H : (if (l0.length : Int) = (b.length : Int) then (laws_eqIntS.l0 k l0 b 0) else (some false)) = some r := h
 clear h; by_cases c : (l0.length : Int) = (b.length : Int)
 ·rw [if_pos c] at H; have D : ((l0.length : Int) == (b.length : Int)) = true := beq_iff_eq.mpr c; have E : ((l0.length : Int) != (b.length : Int)) = false := bne_eq_false_iff_eq.mpr c; have G : (l0.length == b.length) = true := by first | simpa using c | (simp at c ⊢; omega)
  clear c; have H' := am H; clear H; go_enter Try.func89, Try.ntmps89; go_wp2
  repeat (go_quiet (fail); try go_wp2)
  go_loopg [5] k (fun kq J w' => ∃ (a : Int), J = .int .i64 a ∧ Aside0 (laws_eqIntS.l0 kq l0 b a = some r) ∧ Aside0 (kq ≤ k) ∧ Drawn0 w w')
  case atStart => exact ⟨(0), rs_, H', ⟨Nat.le_refl _⟩, by repeat (first | exact Drawn0.refl _ | apply Drawn0.step)⟩
  case round =>
   clear H'; (try clear n c D E G); obtain ⟨a, rfl, HA, I, ⟨m1, rfl⟩⟩ := hrel; cases gk with
   | zero => exact absurd HA.out (by simp [laws_eqIntS.l0])
   | succ k1 =>
    have H := HA.out; clear HA; simp only [laws_eqIntS.l0] at H; by_cases m : a < (l0.length : Int)
    ·rw [if_pos m] at H; have K := decide_eq_true m; clear m; obtain ⟨W, H⟩ := id_ H; obtain ⟨X, H⟩ := id_ H; by_cases d : (rd l0 a) = (rd b a)
     ·rw [if_pos d] at H; have L : ((rd l0 a) == (rd b a)) = true := beq_iff_eq.mpr d; have M : ((rd l0 a) != (rd b a)) = false := bne_eq_false_iff_eq.mpr d; clear d; have H' := am H; clear H; have g : 0 ≤ (a : Int) := oa; have i : a < (l0.length : Int) := oa; obtain ⟨O, o, P⟩ := Kd.at_int A.out a g i; cases o; obtain ⟨g, i⟩ := e2_ g i; have j : 0 ≤ (a : Int) := oa; have l : a < (b.length : Int) := oa; obtain ⟨T, p, U⟩ := Kd.at_int B.out a j l; cases p; obtain ⟨j, l⟩ := e2_ j l; go_wp2
      repeat (go_quiet (fail); try go_wp2)
      go_roundg k1
      case measure => have := I.out; omega
      case rel => exact ⟨(wrap64 (a + 1)), rs_, H', ⟨by have := I.out; omega⟩, by repeat (first | exact Drawn0.refl _ | apply Drawn0.step)⟩
     ·rw [if_neg d] at H; have L : ((rd l0 a) == (rd b a)) = false := beq_eq_false_iff_ne.mpr d; have M : ((rd l0 a) != (rd b a)) = true := bne_iff_ne.mpr d; obtain rfl := Option.some.inj H; have g : 0 ≤ (a : Int) := oa; have i : a < (l0.length : Int) := oa; obtain ⟨O, o, P⟩ := Kd.at_int A.out a g i; cases o; obtain ⟨g, i⟩ := e2_ g i; have j : 0 ≤ (a : Int) := oa; have l : a < (b.length : Int) := oa; obtain ⟨T, p, U⟩ := Kd.at_int B.out a j l; cases p; obtain ⟨j, l⟩ := e2_ j l; go_wp2
      repeat (go_quiet (fail); try go_wp2)
      go_ret
      exact ⟨rs_, by repeat (first | exact Drawn0.refl _ | apply Drawn0.step)⟩
    ·rw [if_neg m] at H; have K := decide_eq_false m; clear m; obtain rfl := Option.some.inj H; go_wp2
     repeat (go_quiet (fail); try go_wp2)
     go_ret
     exact ⟨rs_, by repeat (first | exact Drawn0.refl _ | apply Drawn0.step)⟩
 ·rw [if_neg c] at H; have D : ((l0.length : Int) == (b.length : Int)) = false := beq_eq_false_iff_ne.mpr c; have E : ((l0.length : Int) != (b.length : Int)) = true := bne_iff_ne.mpr c; have G : (l0.length == b.length) = false := by first | simpa using c | (simp at c ⊢; omega)
  obtain rfl := Option.some.inj H; go_enter Try.func89, Try.ntmps89; go_wp2
  repeat (go_quiet (fail); try go_wp2)
  go_ret
  exact ⟨rs_, by repeat (first | exact Drawn0.refl _ | apply Drawn0.step)⟩

/-! ### laws_eqIntSS: function 43 -/
def laws_eqIntSS.l0 : Nat → List (List Int) → List (List Int) → Int → Option (Bool)
 | 0, _, _, _ => none
 | k + 1, x0, x1, x5 => if x5 < (x0.length : Int) then (if 0 ≤ x5 then (if x5 < (x1.length : Int) then ((laws_eqIntS.f k (rd_L2 x0 x5) (rd_L2 x1 x5)).bind fun t1325 => (if t1325 = true then (laws_eqIntSS.l0 k x0 x1 (wrap64 (x5 + 1))) else (some false))) else (none)) else (none)) else (some true)
def laws_eqIntSS.f (k : Nat) (l0 : List (List Int)) (l1 : List (List Int)) : Option (Bool) := if (l0.length : Int) = (l1.length : Int) then (laws_eqIntSS.l0 k l0 l1 0) else (some false)
theorem laws_eqIntSS.mono_l : ∀ k, (∀ a b c, LeO (laws_eqIntSS.l0 k a b c) (laws_eqIntSS.l0 (k + 1) a b c))
 | 0 => fun _ _ _ r h => by simp [laws_eqIntSS.l0] at h
 | k + 1 => by
  have ih0 := laws_eqIntSS.mono_l k
  ·intro a b c; unfold laws_eqIntSS.l0; have m0_ := @laws_eqIntS.mono; exact mo_
theorem laws_eqIntSS.mono : ∀ a b k, LeO (laws_eqIntSS.f k a b) (laws_eqIntSS.f (k + 1) a b) := by
 intro a b k; have ih0 := laws_eqIntSS.mono_l k; unfold laws_eqIntSS.f; have m0_ := @laws_eqIntS.mono; exact mo_
set_option maxHeartbeats 8000000 in
set_option maxRecDepth 100000 in
theorem laws_eqIntSS.calls (k : Nat) (B : Option Addr) (D : Nat) (l0 : List (List Int)) (E : Option Addr) (y : Nat) (b : List (List Int)) (r : Bool) (w : World) (G : Kd.C (Kd.slice 3 (Kd.int .i64)) w B l0.length l0) (I : l0.length ≤ D) (J : Kd.C (Kd.slice 3 (Kd.int .i64)) w E b.length b) (K : b.length ≤ y) (h : laws_eqIntSS.f k l0 b = some r) :
  Calls Try.prog 43 #[.slice B l0.length D, .slice E b.length y] w fun e w' => e = .returned (.bool r) ∧ Drawn0 w w' := by
 have L := am G; have HC0 := am I; clear G I; have M := am J; have HC1 := am K; clear J K
 have H : (if (l0.length : Int) = (b.length : Int) then (laws_eqIntSS.l0 k l0 b 0) else (some false)) = some r := h
 clear h; by_cases c : (l0.length : Int) = (b.length : Int)
 ·rw [if_pos c] at H; have O : ((l0.length : Int) == (b.length : Int)) = true := beq_iff_eq.mpr c; have P : ((l0.length : Int) != (b.length : Int)) = false := bne_eq_false_iff_eq.mpr c; have T : (l0.length == b.length) = true := by first | simpa using c | (simp at c ⊢; omega)
  clear c; have H' := am H; clear H; go_enter Try.func43, Try.ntmps43; go_wp2
  repeat (go_quiet (fail); try go_wp2)
  go_loopg [5] k (fun kq X w' => ∃ (a : Int), X = .int .i64 a ∧ Aside0 (laws_eqIntSS.l0 kq l0 b a = some r) ∧ Aside0 (kq ≤ k) ∧ Drawn0 w w')
  case atStart => exact ⟨(0), rs_, H', ⟨Nat.le_refl _⟩, by repeat (first | exact Drawn0.refl _ | apply Drawn0.step)⟩
  case round =>
   clear H'; (try clear y c O P T); obtain ⟨a, rfl, HA, U, ⟨m1, rfl⟩⟩ := hrel; cases gk with
   | zero => exact absurd HA.out (by simp [laws_eqIntSS.l0])
   | succ k1 =>
    have H := HA.out; clear HA; simp only [laws_eqIntSS.l0] at H; by_cases p : a < (l0.length : Int)
    ·rw [if_pos p] at H; have Y := decide_eq_true p; clear p; obtain ⟨aj, H⟩ := id_ H; obtain ⟨ak, H⟩ := id_ H; obtain ⟨Z, q, H⟩ := bi_ H; by_cases W : Z = true
     ·subst W; rw [if_pos rfl] at H; have H' := am H; clear H; have d : 0 ≤ (a : Int) := oa; have g : a < (l0.length : Int) := oa; obtain ⟨aa, ab, ad, z, ae, s, t⟩ := at_L2 L.out a d g; cases z; have i := am t; have j := am s; clear t s; obtain ⟨d, g⟩ := e2_ d g; have l : 0 ≤ (a : Int) := oa; have m : a < (b.length : Int) := oa; obtain ⟨af, ag, ah, A, ai, u, x⟩ := at_L2 M.out a l m; cases A; have n := am x; have o := am u; clear x u; obtain ⟨l, m⟩ := e2_ l m
      go_wp2_with (first | (go_at_call 89; (with_reducible refine (laws_eqIntS.calls k1 _ _ (rd_L2 l0 a) _ _ (rd_L2 b a) true _ ?z_1 ?z_2 ?z_3 ?z_4 q.out).mono ?_); (case z_1 => repeat (first | exact i.out | (with_reducible refine Kd.C_alloc ?_ _) | (with_reducible refine Kd.C_drewN ?_ _) | (with_reducible refine Kd.C_drew ?_))); (case z_2 => exact j.out); (case z_3 => repeat (first | exact n.out | (with_reducible refine Kd.C_alloc ?_ _) | (with_reducible refine Kd.C_drewN ?_ _) | (with_reducible refine Kd.C_drew ?_))); (case z_4 => exact o.out); rintro e w' ⟨rfl, ⟨nd, rfl⟩⟩; (try first | exact ⟨rfl, _, World.drewN_drewN _ _ _⟩ | exact ⟨rfl, _, Eq.trans (World.drewN_drewN _ _ _) (congrArg (World.drewN _) (Nat.add_assoc _ _ _))⟩)))
      repeat (go_quiet (first | (go_at_call 89; (with_reducible refine (laws_eqIntS.calls k1 _ _ (rd_L2 l0 a) _ _ (rd_L2 b a) true _ ?z_1 ?z_2 ?z_3 ?z_4 q.out).mono ?_); (case z_1 => repeat (first | exact i.out | (with_reducible refine Kd.C_alloc ?_ _) | (with_reducible refine Kd.C_drewN ?_ _) | (with_reducible refine Kd.C_drew ?_))); (case z_2 => exact j.out); (case z_3 => repeat (first | exact n.out | (with_reducible refine Kd.C_alloc ?_ _) | (with_reducible refine Kd.C_drewN ?_ _) | (with_reducible refine Kd.C_drew ?_))); (case z_4 => exact o.out); rintro e w' ⟨rfl, ⟨nd, rfl⟩⟩; (try first | exact ⟨rfl, _, World.drewN_drewN _ _ _⟩ | exact ⟨rfl, _, Eq.trans (World.drewN_drewN _ _ _) (congrArg (World.drewN _) (Nat.add_assoc _ _ _))⟩))); try go_wp2_with (first | (go_at_call 89; (with_reducible refine (laws_eqIntS.calls k1 _ _ (rd_L2 l0 a) _ _ (rd_L2 b a) true _ ?z_1 ?z_2 ?z_3 ?z_4 q.out).mono ?_); (case z_1 => repeat (first | exact i.out | (with_reducible refine Kd.C_alloc ?_ _) | (with_reducible refine Kd.C_drewN ?_ _) | (with_reducible refine Kd.C_drew ?_))); (case z_2 => exact j.out); (case z_3 => repeat (first | exact n.out | (with_reducible refine Kd.C_alloc ?_ _) | (with_reducible refine Kd.C_drewN ?_ _) | (with_reducible refine Kd.C_drew ?_))); (case z_4 => exact o.out); rintro e w' ⟨rfl, ⟨nd, rfl⟩⟩; (try first | exact ⟨rfl, _, World.drewN_drewN _ _ _⟩ | exact ⟨rfl, _, Eq.trans (World.drewN_drewN _ _ _) (congrArg (World.drewN _) (Nat.add_assoc _ _ _))⟩))))
      go_roundg k1
      case measure => have := U.out; omega
      case rel => exact ⟨(wrap64 (a + 1)), rs_, H', ⟨by have := U.out; omega⟩, by repeat (first | exact Drawn0.refl _ | apply Drawn0.step)⟩
     ·obtain rfl := nt_ W; rw [if_neg nf_] at H; obtain rfl := Option.some.inj H; have d : 0 ≤ (a : Int) := oa; have g : a < (l0.length : Int) := oa; obtain ⟨aa, ab, ad, z, ae, s, t⟩ := at_L2 L.out a d g; cases z; have i := am t; have j := am s; clear t s; obtain ⟨d, g⟩ := e2_ d g; have l : 0 ≤ (a : Int) := oa; have m : a < (b.length : Int) := oa; obtain ⟨af, ag, ah, A, ai, u, x⟩ := at_L2 M.out a l m; cases A; have n := am x; have o := am u; clear x u; obtain ⟨l, m⟩ := e2_ l m
      go_wp2_with (first | (go_at_call 89; (with_reducible refine (laws_eqIntS.calls k1 _ _ (rd_L2 l0 a) _ _ (rd_L2 b a) false _ ?z_1 ?z_2 ?z_3 ?z_4 q.out).mono ?_); (case z_1 => repeat (first | exact i.out | (with_reducible refine Kd.C_alloc ?_ _) | (with_reducible refine Kd.C_drewN ?_ _) | (with_reducible refine Kd.C_drew ?_))); (case z_2 => exact j.out); (case z_3 => repeat (first | exact n.out | (with_reducible refine Kd.C_alloc ?_ _) | (with_reducible refine Kd.C_drewN ?_ _) | (with_reducible refine Kd.C_drew ?_))); (case z_4 => exact o.out); rintro e w' ⟨rfl, ⟨nd, rfl⟩⟩; (try first | exact ⟨rfl, _, World.drewN_drewN _ _ _⟩ | exact ⟨rfl, _, Eq.trans (World.drewN_drewN _ _ _) (congrArg (World.drewN _) (Nat.add_assoc _ _ _))⟩)))
      repeat (go_quiet (first | (go_at_call 89; (with_reducible refine (laws_eqIntS.calls k1 _ _ (rd_L2 l0 a) _ _ (rd_L2 b a) false _ ?z_1 ?z_2 ?z_3 ?z_4 q.out).mono ?_); (case z_1 => repeat (first | exact i.out | (with_reducible refine Kd.C_alloc ?_ _) | (with_reducible refine Kd.C_drewN ?_ _) | (with_reducible refine Kd.C_drew ?_))); (case z_2 => exact j.out); (case z_3 => repeat (first | exact n.out | (with_reducible refine Kd.C_alloc ?_ _) | (with_reducible refine Kd.C_drewN ?_ _) | (with_reducible refine Kd.C_drew ?_))); (case z_4 => exact o.out); rintro e w' ⟨rfl, ⟨nd, rfl⟩⟩; (try first | exact ⟨rfl, _, World.drewN_drewN _ _ _⟩ | exact ⟨rfl, _, Eq.trans (World.drewN_drewN _ _ _) (congrArg (World.drewN _) (Nat.add_assoc _ _ _))⟩))); try go_wp2_with (first | (go_at_call 89; (with_reducible refine (laws_eqIntS.calls k1 _ _ (rd_L2 l0 a) _ _ (rd_L2 b a) false _ ?z_1 ?z_2 ?z_3 ?z_4 q.out).mono ?_); (case z_1 => repeat (first | exact i.out | (with_reducible refine Kd.C_alloc ?_ _) | (with_reducible refine Kd.C_drewN ?_ _) | (with_reducible refine Kd.C_drew ?_))); (case z_2 => exact j.out); (case z_3 => repeat (first | exact n.out | (with_reducible refine Kd.C_alloc ?_ _) | (with_reducible refine Kd.C_drewN ?_ _) | (with_reducible refine Kd.C_drew ?_))); (case z_4 => exact o.out); rintro e w' ⟨rfl, ⟨nd, rfl⟩⟩; (try first | exact ⟨rfl, _, World.drewN_drewN _ _ _⟩ | exact ⟨rfl, _, Eq.trans (World.drewN_drewN _ _ _) (congrArg (World.drewN _) (Nat.add_assoc _ _ _))⟩))))
      go_ret
      exact ⟨rs_, by repeat (first | exact Drawn0.refl _ | apply Drawn0.step)⟩
    ·rw [if_neg p] at H; have Y := decide_eq_false p; clear p; obtain rfl := Option.some.inj H; go_wp2
     repeat (go_quiet (fail); try go_wp2)
     go_ret
     exact ⟨rs_, by repeat (first | exact Drawn0.refl _ | apply Drawn0.step)⟩
 ·rw [if_neg c] at H; have O : ((l0.length : Int) == (b.length : Int)) = false := beq_eq_false_iff_ne.mpr c; have P : ((l0.length : Int) != (b.length : Int)) = true := bne_iff_ne.mpr c; have T : (l0.length == b.length) = false := by first | simpa using c | (simp at c ⊢; omega)
  obtain rfl := Option.some.inj H; go_enter Try.func43, Try.ntmps43; go_wp2
  repeat (go_quiet (fail); try go_wp2)
  go_ret
  exact ⟨rs_, by repeat (first | exact Drawn0.refl _ | apply Drawn0.step)⟩

/-! ### laws_markIntS: function 90 -/
def laws_markIntS.l0 : Nat → List Int → Int → Int → Option (Int × List Int)
 | 0, _, _, _ => none
 | k + 1, x0, x1, x5 => if x5 < (x0.length : Int) then (if 0 ≤ x5 then (laws_markIntS.l0 k (x0.set (x5 : Int).toNat x1) (wrap64 (x1 + 1)) (wrap64 (x5 + 1))) else (none)) else (some (x1, x0))
def laws_markIntS.f (k : Nat) (l0 : List Int) (a1 : Int) : Option (Int × List Int) := laws_markIntS.l0 k l0 a1 0
theorem laws_markIntS.mono_l : ∀ k, (∀ a b c, LeO (laws_markIntS.l0 k a b c) (laws_markIntS.l0 (k + 1) a b c))
 | 0 => fun _ _ _ r h => by simp [laws_markIntS.l0] at h
 | k + 1 => by
  have ih0 := laws_markIntS.mono_l k
  ·intro a b c; unfold laws_markIntS.l0; exact mo_
theorem laws_markIntS.mono : ∀ a b k, LeO (laws_markIntS.f k a b) (laws_markIntS.f (k + 1) a b) := by
 intro a b k; have ih0 := laws_markIntS.mono_l k; unfold laws_markIntS.f; exact mo_
set_option maxHeartbeats 8000000 in
set_option maxRecDepth 100000 in
theorem laws_markIntS.calls (k : Nat) (c : Nat → Prop) (l : Value) (l0 : List Int) (q : Int) (m : Int) (n : List Int) (a w : World) (hB : Below a.heap.size a w) (I : Kd.R (Kd.int .i64) 3 w a.heap.size c l l0) (h : laws_markIntS.f k l0 q = some (m, n)) :
  Calls Try.prog 90 #[l, .int .i64 q] w fun e w' => e = .returned (.int .i64 m) ∧ Kd.R (Kd.int .i64) 3 w' a.heap.size (fun k_ => (c k_ ∨ w.heap.size ≤ k_)) l n ∧ Below a.heap.size a w' ∧ Kept w w' (fun k_ => c k_) := by
 have J := am (show Kd.R (Kd.int .i64) 3 w a.heap.size (fun k_ => (c k_ ∨ w.heap.size ≤ k_)) l l0 from Kd.R_mono I (fun k_ hk => (.inl hk))); have HK := am (Kept.refl w (fun k_ => c k_)); have HW0 := am hB.size; have HB := am hB; clear hB
 have H : (laws_markIntS.l0 k l0 q 0) = some (m, n) := h
 clear h; have H' := am H; clear H; go_enter Try.func90, Try.ntmps90; go_wp2
 go_loopg [1, 5] k (fun kq K L w' => ∃ (i : List Int) (g : Int) (b : Int), K = .int .i64 g ∧ L = .int .i64 b ∧ Aside0 (laws_markIntS.l0 kq i g b = some (m, n)) ∧ Aside0 (kq ≤ k) ∧ Aside0 (Kd.R (Kd.int .i64) 3 w' a.heap.size (fun k_ => (c k_ ∨ w.heap.size ≤ k_)) l i) ∧ Aside0 (Kept w w' (fun k_ => c k_)) ∧ Aside0 (Below a.heap.size a w'))
 case atStart => exact ⟨(l0), (q), (0), rs_, rs_, H', ⟨Nat.le_refl _⟩, ⟨onR J⟩, ⟨by repeat (first | (with_reducible first | exact HK.out | apply Kept.alloc | apply Kept.drewN | apply Kept.drew) | exact HK.out)⟩, ⟨bn HB⟩⟩
 case round =>
  clear H'; obtain ⟨i, g, b, rfl, rfl, HA, B, d, HK, HB⟩ := hrel; cases gk with
  | zero => exact absurd HA.out (by simp [laws_markIntS.l0])
  | succ k1 =>
   have H := HA.out; clear HA; simp only [laws_markIntS.l0] at H; by_cases j : b < (i.length : Int)
   ·rw [if_pos j] at H; have M := decide_eq_true j; clear j; obtain ⟨Z, H⟩ := id_ H; obtain ⟨s, u⟩ : ∃ y_ : List Int, y_ = (i.set (b : Int).toNat g) := ⟨_, rfl⟩; replace H : (laws_markIntS.l0 k1 s (wrap64 (g + 1)) (wrap64 (b + 1))) = some (m, n) := nh_ u H; have O := am u; clear u; have H' := am H; clear H; obtain ⟨Ao6, P, T⟩ := Kd.R_slice d.out; subst T; have x : 0 ≤ (b : Int) := oa; have y : (b : Int) < ((i.length : Int) : Int) := oa; obtain ⟨o, co5, D, E, U, cl5, G⟩ := Kd.R_form d.out (by omega); (first | cases D | (injection D with ea_ en_ ec_; (first | subst ea_ | (injection ea_ with ea_; subst ea_)); subst ec_; clear en_)); have W := am E; have GG5 := am G; clear E U G; have aa := am (show (c o ∨ w.heap.size ≤ o) from (d.out.1 _ rfl)); obtain ⟨ab, ad⟩ := Kd.R_celln 0 d.out (b : Int) x y; obtain ⟨x, y⟩ := e2_ x y; have z := Kd.R_putg d.out (b : Int) g
    go_wp2_with (first | ((with_reducible refine gate_store (t := 3) (p := 15) rfl ?_); refine store_event (t := 3) (p := 15) (v := ?vo_w8) (w1 := (wr.setCell ⟨o, (b : Int).toNat, none⟩ (.int .i64 g))) ?hg ?ho ?hn ?hr ?_; (case ho => rfl); (case hg => rfl); (case hn => rfl); (case hr => first | (go_simp; done) | (go_simp; rfl)); intro A hw; have hg : wr.grownBy A (some o) := (by rw [hw]; exact z.2); have hp_ : Kd.R (Kd.int .i64) 3 A a.heap.size (fun k_ => (c k_ ∨ w.heap.size ≤ k_)) (.slice (some ⟨o, 0, none⟩) i.length P) s := (by rw [hw, O.out]; exact z.1); clear z; replace HB := am (by rw [hw]; exact below_set (HB.out) W.out : Below a.heap.size a A); replace HK := am (Kept.of_grown (S := (fun k_ => c k_)) hg (by repeat (first | (with_reducible first | exact HK.out | apply Kept.alloc | apply Kept.drewN | apply Kept.drew) | exact HK.out)) (fun k_ X => (d.out.1 k_ X))); replace d := am hp_; clear hg hw hp_))
    go_roundg k1
    case measure => have := B.out; omega
    case rel => exact ⟨(s), (wrap64 (g + 1)), (wrap64 (b + 1)), rs_, rs_, H', ⟨by have := B.out; omega⟩, ⟨onR d⟩, ⟨by repeat (first | (with_reducible first | exact HK.out | apply Kept.alloc | apply Kept.drewN | apply Kept.drew) | exact HK.out)⟩, ⟨bn HB⟩⟩
   ·rw [if_neg j] at H; have M := decide_eq_false j; clear j; simp only [Option.some.injEq, Prod.mk.injEq] at H; obtain ⟨rfl, rfl⟩ := H; obtain ⟨Ao9, co9, Y⟩ := Kd.R_slice d.out; subst Y; go_wp2
    go_ret
    exact ⟨er_, onR d, bn HB, by repeat (first | (with_reducible first | exact HK.out | apply Kept.alloc | apply Kept.drewN | apply Kept.drew) | exact HK.out)⟩

/-! ### laws_heldIntS: function 91 -/
def laws_heldIntS.l0 : Nat → List Int → Int → Int → Option (Int)
 | 0, _, _, _ => none
 | k + 1, x0, x1, x5 => if x5 < (x0.length : Int) then (if 0 ≤ x5 then (if (rd x0 x5) = x1 then (laws_heldIntS.l0 k x0 (wrap64 (x1 + 1)) (wrap64 (x5 + 1))) else (some (-1))) else (none)) else (some x1)
def laws_heldIntS.f (k : Nat) (l0 : List Int) (a1 : Int) : Option (Int) := laws_heldIntS.l0 k l0 a1 0
theorem laws_heldIntS.mono_l : ∀ k, (∀ a b c, LeO (laws_heldIntS.l0 k a b c) (laws_heldIntS.l0 (k + 1) a b c))
 | 0 => fun _ _ _ r h => by simp [laws_heldIntS.l0] at h
 | k + 1 => by
  have ih0 := laws_heldIntS.mono_l k
  ·intro a b c; unfold laws_heldIntS.l0; exact mo_
theorem laws_heldIntS.mono : ∀ a b k, LeO (laws_heldIntS.f k a b) (laws_heldIntS.f (k + 1) a b) := by
 intro a b k; have ih0 := laws_heldIntS.mono_l k; unfold laws_heldIntS.f; exact mo_
set_option maxHeartbeats 8000000 in
set_option maxRecDepth 100000 in
theorem laws_heldIntS.calls (k : Nat) (m : Option Addr) (n : Nat) (l0 : List Int) (j : Int) (r : Int) (w : World) (o : Kd.C (Kd.int .i64) w m l0.length l0) (p : l0.length ≤ n) (h : laws_heldIntS.f k l0 j = some r) :
  Calls Try.prog 91 #[.slice m l0.length n, .int .i64 j] w fun e w' => e = .returned (.int .i64 r) ∧ Drawn0 w w' := by
 have q := am o; have HC0 := am p; clear o p
 have H : (laws_heldIntS.l0 k l0 j 0) = some r := h
 clear h; have H' := am H; clear H; go_enter Try.func91, Try.ntmps91; go_wp2
 go_loopg [1, 5] k (fun kq t u w' => ∃ (b : Int) (a : Int), t = .int .i64 b ∧ u = .int .i64 a ∧ Aside0 (laws_heldIntS.l0 kq l0 b a = some r) ∧ Aside0 (kq ≤ k) ∧ Drawn0 w w')
 case atStart => exact ⟨(j), (0), rs_, rs_, H', ⟨Nat.le_refl _⟩, by repeat (first | exact Drawn0.refl _ | apply Drawn0.step)⟩
 case round =>
  clear H'; obtain ⟨b, a, rfl, rfl, HA, s, ⟨m1, rfl⟩⟩ := hrel; cases gk with
  | zero => exact absurd HA.out (by simp [laws_heldIntS.l0])
  | succ k1 =>
   have H := HA.out; clear HA; simp only [laws_heldIntS.l0] at H; by_cases i : a < (l0.length : Int)
   ·rw [if_pos i] at H; have x := decide_eq_true i; clear i; obtain ⟨D, H⟩ := id_ H; by_cases c : (rd l0 a) = b
    ·rw [if_pos c] at H; have y : ((rd l0 a) == b) = true := beq_iff_eq.mpr c; have z : ((rd l0 a) != b) = false := bne_eq_false_iff_eq.mpr c; clear c; have H' := am H; clear H; have d : 0 ≤ (a : Int) := oa; have g : a < (l0.length : Int) := oa; obtain ⟨A, l, B⟩ := Kd.at_int q.out a d g; cases l; obtain ⟨d, g⟩ := e2_ d g; go_wp2
     go_roundg k1
     case measure => have := s.out; omega
     case rel => exact ⟨(wrap64 (b + 1)), (wrap64 (a + 1)), rs_, rs_, H', ⟨by have := s.out; omega⟩, by repeat (first | exact Drawn0.refl _ | apply Drawn0.step)⟩
    ·rw [if_neg c] at H; have y : ((rd l0 a) == b) = false := beq_eq_false_iff_ne.mpr c; have z : ((rd l0 a) != b) = true := bne_iff_ne.mpr c; obtain rfl := Option.some.inj H; have d : 0 ≤ (a : Int) := oa; have g : a < (l0.length : Int) := oa; obtain ⟨A, l, B⟩ := Kd.at_int q.out a d g; cases l; obtain ⟨d, g⟩ := e2_ d g; go_wp2
     go_ret
     exact ⟨rs_, by repeat (first | exact Drawn0.refl _ | apply Drawn0.step)⟩
   ·rw [if_neg i] at H; have x := decide_eq_false i; clear i; obtain rfl := Option.some.inj H; go_wp2
    go_ret
    exact ⟨rs_, by repeat (first | exact Drawn0.refl _ | apply Drawn0.step)⟩

/-! ### laws_heldIntSS: function 45 -/
def laws_heldIntSS.l0 : Nat → List (List Int) → Int → Int → Option (Int)
 | 0, _, _, _ => none
 | k + 1, x0, x1, x5 => if x5 < (x0.length : Int) then (if 0 ≤ x5 then ((laws_heldIntS.f k (rd_L2 x0 x5) x1).bind fun t1329 => (if t1329 < 0 then (some (-1)) else (laws_heldIntSS.l0 k x0 t1329 (wrap64 (x5 + 1))))) else (none)) else (some x1)
def laws_heldIntSS.f (k : Nat) (l0 : List (List Int)) (a1 : Int) : Option (Int) := laws_heldIntSS.l0 k l0 a1 0
theorem laws_heldIntSS.mono_l : ∀ k, (∀ a b c, LeO (laws_heldIntSS.l0 k a b c) (laws_heldIntSS.l0 (k + 1) a b c))
 | 0 => fun _ _ _ r h => by simp [laws_heldIntSS.l0] at h
 | k + 1 => by
  have ih0 := laws_heldIntSS.mono_l k
  ·intro a b c; unfold laws_heldIntSS.l0; have m0_ := @laws_heldIntS.mono; exact mo_
theorem laws_heldIntSS.mono : ∀ a b k, LeO (laws_heldIntSS.f k a b) (laws_heldIntSS.f (k + 1) a b) := by
 intro a b k; have ih0 := laws_heldIntSS.mono_l k; unfold laws_heldIntSS.f; have m0_ := @laws_heldIntS.mono; exact mo_
set_option maxHeartbeats 8000000 in
set_option maxRecDepth 100000 in
theorem laws_heldIntSS.calls (k : Nat) (u : Option Addr) (x : Nat) (l0 : List (List Int)) (m : Int) (r : Int) (w : World) (y : Kd.C (Kd.slice 3 (Kd.int .i64)) w u l0.length l0) (z : l0.length ≤ x) (h : laws_heldIntSS.f k l0 m = some r) :
  Calls Try.prog 45 #[.slice u l0.length x, .int .i64 m] w fun e w' => e = .returned (.int .i64 r) ∧ Drawn0 w w' := by
 have A := am y; have HC0 := am z; clear y z
 have H : (laws_heldIntSS.l0 k l0 m 0) = some r := h
 clear h; have H' := am H; clear H; go_enter Try.func45, Try.ntmps45; go_wp2
 go_loopg [1, 5] k (fun kq E G w' => ∃ (b : Int) (a : Int), E = .int .i64 b ∧ G = .int .i64 a ∧ Aside0 (laws_heldIntSS.l0 kq l0 b a = some r) ∧ Aside0 (kq ≤ k) ∧ Drawn0 w w')
 case atStart => exact ⟨(m), (0), rs_, rs_, H', ⟨Nat.le_refl _⟩, by repeat (first | exact Drawn0.refl _ | apply Drawn0.step)⟩
 case round =>
  clear H'; obtain ⟨b, a, rfl, rfl, HA, B, ⟨m1, rfl⟩⟩ := hrel; cases gk with
  | zero => exact absurd HA.out (by simp [laws_heldIntSS.l0])
  | succ k1 =>
   have H := HA.out; clear HA; simp only [laws_heldIntSS.l0] at H; by_cases g : a < (l0.length : Int)
   ·rw [if_pos g] at H; have I := decide_eq_true g; clear g; obtain ⟨M, H⟩ := id_ H; obtain ⟨n, D, H⟩ := bi_ H; by_cases i : n < 0
    ·rw [if_pos i] at H; have J := decide_eq_true i; clear i; obtain rfl := Option.some.inj H; have c : 0 ≤ (a : Int) := oa; have d : a < (l0.length : Int) := oa; obtain ⟨K, o, p, q, L, j, l⟩ := at_L2 A.out a c d; cases q; have s := am l; have t := am j; clear l j; obtain ⟨c, d⟩ := e2_ c d
     go_wp2_with (first | ((with_reducible refine gate_callee (f := 91) rfl ?_); refine gl_ (some 17) Try.func91 #[.slice o (rd_L2 l0 a).length p, .int .i64 b] ?_; (with_reducible refine (laws_heldIntS.calls k1 _ _ (rd_L2 l0 a) b n _ ?z_1 ?z_2 D.out).mono ?_); (case z_1 => repeat (first | exact s.out | (with_reducible refine Kd.C_alloc ?_ _) | (with_reducible refine Kd.C_drewN ?_ _) | (with_reducible refine Kd.C_drew ?_))); (case z_2 => exact t.out); rintro e w' ⟨rfl, ⟨nd, rfl⟩⟩; refine ⟨_, rfl, ?_⟩))
     go_ret
     exact ⟨rs_, by repeat (first | exact Drawn0.refl _ | apply Drawn0.step)⟩
    ·rw [if_neg i] at H; have J := decide_eq_false i; clear i; have H' := am H; clear H; have c : 0 ≤ (a : Int) := oa; have d : a < (l0.length : Int) := oa; obtain ⟨K, o, p, q, L, j, l⟩ := at_L2 A.out a c d; cases q; have s := am l; have t := am j; clear l j; obtain ⟨c, d⟩ := e2_ c d
     go_wp2_with (first | ((with_reducible refine gate_callee (f := 91) rfl ?_); refine gl_ (some 17) Try.func91 #[.slice o (rd_L2 l0 a).length p, .int .i64 b] ?_; (with_reducible refine (laws_heldIntS.calls k1 _ _ (rd_L2 l0 a) b n _ ?z_1 ?z_2 D.out).mono ?_); (case z_1 => repeat (first | exact s.out | (with_reducible refine Kd.C_alloc ?_ _) | (with_reducible refine Kd.C_drewN ?_ _) | (with_reducible refine Kd.C_drew ?_))); (case z_2 => exact t.out); rintro e w' ⟨rfl, ⟨nd, rfl⟩⟩; refine ⟨_, rfl, ?_⟩))
     go_roundg k1
     case measure => have := B.out; omega
     case rel => exact ⟨(n), (wrap64 (a + 1)), rs_, rs_, H', ⟨by have := B.out; omega⟩, by repeat (first | exact Drawn0.refl _ | apply Drawn0.step)⟩
   ·rw [if_neg g] at H; have I := decide_eq_false g; clear g; obtain rfl := Option.some.inj H; go_wp2
    go_ret
    exact ⟨rs_, by repeat (first | exact Drawn0.refl _ | apply Drawn0.step)⟩

end Go.Proofs.Ytffflhmblelegaa.F
