-- By oprint.py.
import Derived.Test.YtlddkafpbhjpdaaF0
import Derived.Test.YtlddkafpbhjpdaaF1
import Derived.Test.YtlddkafpbhjpdaaF11
import Derived.Test.YtlddkafpbhjpdaaF4
namespace Go.Proofs.Ytlddkafpbhjpdaa.F
open Go.RowKit Go.Proofs.YtlddkafpbhjpdaaW.PrintWords Go.Proofs.YtlddkafpbhjpdaaW.PrintLast Go.Proofs.YtlddkafpbhjpdaaW.PrintMore
attribute [local go_sem] max2_int min2_int max_two min_two max_three min_three max_four min_four
set_option linter.unusedVariables false
set_option linter.unusedSimpArgs false

attribute [local go_sem high] eqA44
/-! ### spec_WayReach: function 33 -/
mutual
def spec_WayReach.l0 : Nat → List Bool → List Int → Int → List (S44) → Option (List Bool)
 | 0, _, _, _, _ => none
 | k + 1, x5, x6, x328000, x328001 => if (x6.length : Int) > 0 then (if 0 < (x6.length : Int) then ((spec_l2Next.f k x328000 x328001 (rd x6 0)).bind fun t340 => (if 1 ≤ (x6.length : Int) then (spec_WayReach.l1 k x5 (x6.drop (1 : Int).toNat) t340 0 x328000 x328001) else (none))) else (none)) else (some x5)
def spec_WayReach.l1 : Nat → List Bool → List Int → List Int → Int → Int → List (S44) → Option (List Bool)
 | 0, _, _, _, _, _, _ => none
 | k + 1, x5, x6, x7, x8, x328000, x328001 => if x8 < (x7.length : Int) then (if 0 ≤ x8 then (if 0 ≤ (rd x7 x8) then (if (rd x7 x8) < (x5.length : Int) then (if (rdOf false x5 (rd x7 x8) = true) then (spec_WayReach.l1 k x5 x6 x7 (wrap64 (x8 + 1)) x328000 x328001) else (if x6.length < 17592186044416 then (spec_WayReach.l1 k (x5.set ((rd x7 x8) : Int).toNat true) (x6 ++ [rd x7 x8]) x7 (wrap64 (x8 + 1)) x328000 x328001) else (none))) else (none)) else (none)) else (none)) else (spec_WayReach.l0 k x5 x6 x328000 x328001)
end
def spec_WayReach.f (k : Nat) (a0_0 : Int) (l0_1 : List (S44)) (a1 : Int) : Option (List Bool) := (spec_l1Knot.f k a0_0 l0_1 a1).bind fun t328 => (if t328 = true then (if 0 ≤ a0_0 then (if (a0_0 : Int).toNat ≤ 281474976710656 then ((some (List.replicate (a0_0 : Int).toNat false : List Bool)).bind fun y332 => (if 0 ≤ a1 then (if a1 < (y332.length : Int) then (spec_WayReach.l0 k (y332.set (a1 : Int).toNat true) (([a1] : List Int)) a0_0 l0_1) else (none)) else (none))) else (none)) else (none)) else (some (([] : List Bool))))
theorem spec_WayReach.mono_l : ∀ k, (∀ a b c d, LeO (spec_WayReach.l0 k a b c d) (spec_WayReach.l0 (k + 1) a b c d)) ∧ (∀ a b c d e f, LeO (spec_WayReach.l1 k a b c d e f) (spec_WayReach.l1 (k + 1) a b c d e f))
 | 0 => ⟨fun _ _ _ _ r h => by simp [spec_WayReach.l0] at h, fun _ _ _ _ _ _ r h => by simp [spec_WayReach.l1] at h⟩
 | k + 1 => by
  obtain ⟨ih0, ih1⟩ := spec_WayReach.mono_l k; refine ⟨?_, ?_⟩
  ·intro a b c d; unfold spec_WayReach.l0; have g := @spec_l1Knot.mono; have i := @spec_l2Next.mono; exact mo_
  ·intro a b c d e f; unfold spec_WayReach.l1; have g := @spec_l1Knot.mono; have i := @spec_l2Next.mono; exact mo_
theorem spec_WayReach.mono : ∀ a b c k, LeO (spec_WayReach.f k a b c) (spec_WayReach.f (k + 1) a b c) := by
 intro a b c k; obtain ⟨ih0, ih1⟩ := spec_WayReach.mono_l k; unfold spec_WayReach.f; have m0_ := @spec_l1Knot.mono; have m1_ := @spec_l2Next.mono; exact mo_
set_option maxHeartbeats 8000000 in
set_option maxRecDepth 100000 in
theorem spec_WayReach.calls (k : Nat) (g : Int) (A : Option Addr) (B : Nat) (l : List (S44)) (j : Int) (r : List Bool) (w : World) (bd : Kd.C k44 w A l.length l) (be : l.length ≤ B) (h : spec_WayReach.f k g l j = some r) :
  Calls Try.prog 33 #[.agg #[.int .i64 g, .slice A l.length B], .int .i64 j] w fun e w' => ∃ bf : Value, e = .returned (bf) ∧ Kd.R Kd.bool 4 w' w.heap.size (fun _ => True) bf r ∧ Below w.heap.size w w' := by
 have cn := Try.underlying25; have aC := am bd; have aD := am be; clear bd be; have HB := am (Below.refl w.heap.size w)
 have H : ((spec_l1Knot.f k g l j).bind fun aE => (if aE = true then (if 0 ≤ g then (if (g : Int).toNat ≤ 281474976710656 then ((some (List.replicate (g : Int).toNat false : List Bool)).bind fun D => (if 0 ≤ j then (if j < (D.length : Int) then (spec_WayReach.l0 k (D.set (j : Int).toNat true) (([j] : List Int)) g l) else (none)) else (none))) else (none)) else (none)) else (some (([] : List Bool))))) = some r := h
 clear h; obtain ⟨aE, A3, H⟩ := bi_ H; by_cases c4 : aE = true
 ·subst c4; rw [if_pos rfl] at H; obtain ⟨c5, H⟩ := ig_ H; have bg := eq_true c5; have bh := decide_eq_true c5; clear c5; obtain ⟨c6, H⟩ := ig_ H; have bi := eq_true c6; have bj := decide_eq_true c6; clear c6; obtain ⟨D, aG⟩ : ∃ y_ : List Bool, y_ = (List.replicate (g : Int).toNat false) := ⟨_, rfl⟩; replace H : (if 0 ≤ j then (if j < (D.length : Int) then (spec_WayReach.l0 k (D.set (j : Int).toNat true) (([j] : List Int)) g l) else (none)) else (none)) = some r := nh_ aG H; have bk := am aG; clear aG; obtain ⟨bl, H⟩ := id_ H; obtain ⟨bo, H⟩ := id_ H; obtain ⟨al, aH⟩ : ∃ y_ : List Bool, y_ = (D.set (j : Int).toNat true) := ⟨_, rfl⟩; replace H : (spec_WayReach.l0 k al (([j] : List Int)) g l) = some r := nh_ aH H; have bP := am aH; clear aH; obtain ⟨bp, aI⟩ : ∃ y_ : List Int, y_ = (([j] : List Int)) := ⟨_, rfl⟩; replace H : (spec_WayReach.l0 k al bp g l) = some r := nh_ aI H; have br := am aI; clear aI; have H' := am H; clear H; go_enter Try.func33, Try.ntmps33
  go_wp2_with (first | ((with_reducible refine gate_dst (N := 2) rfl ?_); refine bx_ 2 #[.int .i64 g, .slice A l.length B] 25 HB ?_; clear HB; intro aJ hg w10 hb a bQ HB; clear hb hg; have bu := c2 a) | ((with_reducible refine gate_callee (f := 41) rfl ?_); refine gl_ (some 11) Try.func41 #[.agg #[.int .i64 g, .slice A l.length B], .int .i64 j] ?_; (with_reducible refine (spec_l1Knot.calls k g _ _ l j true _ ?z_1 ?z_2 A3.out).mono ?_); (case z_1 => exact cb aC HB); (case z_2 => exact aD.out); rintro e w12 ⟨rfl, hb⟩; refine ⟨_, rfl, ?_⟩; replace a := bb a hb; replace HB := bs HB hb; (try clear hb); have bv := c2 a) | ((with_reducible refine gate_dst (N := 16) rfl ?_); refine Kd.R_make Kd.bool _ 4 rfl (N := 16) rfl 50 _ _ rfl g rfl rfl Try.underlying50 (.bool false) 1 info4 rfl (by decide) (by omega) false (ok := fun _ => True) (okp := fun _ => True) rfl (fun _ hk => hk) trivial (oa) (Nat.le_trans (Nat.mul_le_mul_right _ (oa : g.toNat ≤ 281474976710656)) (by omega)) (Below.refl _ _) (Nat.le_refl _) ?_; intro co bw ad hb ae af; clear ae af; (first | rw [← bk.out] at ad | (simp only [Int.reduceToNat] at ad; rw [← bk.out] at ad)); have E := am (Kd.R_lower ad (below_size (bn HB))); replace a := bb a hb; replace HB := bs HB hb; clear hb ad; have p9 : 0 ≤ (j : Int) := oa; have q9 : (j : Int) < ((D.length : Int) : Int) := oa; obtain ⟨y, W, bx, bz, bR, cl9, bA⟩ := Kd.R_form E.out (by omega); (first | cases bx | (injection bx with ea_ en_ ec_; (first | subst ea_ | (injection ea_ with ea_; subst ea_)); subst ec_; clear en_)); have bB := am bz; have GG9 := am bA; clear bz bR bA; obtain ⟨bC, cp⟩ := Kd.R_celln false E.out (j : Int) p9 q9; obtain ⟨p9, q9⟩ := e2_ p9 q9; obtain ⟨cq, cr⟩ := Kd.R_celln false E.out (j : Int) (oa) (oa); have aK := Kd.R_putg E.out (j : Int) true) | ((with_reducible refine gate_store (t := 4) (p := 19) rfl ?_); refine store_event (t := 4) (p := 19) (v := ?vo_w17) (w1 := (bw.setCell ⟨y, (j : Int).toNat, none⟩ (.bool true))) ?hg ?ho ?hn ?hr ?_; (case ho => rfl); (case hg => rfl); (case hn => rfl); (case hr => first | (go_simp; done) | (go_simp; rfl)); intro aM hw; have hg : bw.grownBy aM (some y) := (by rw [hw]; exact aK.2); have hp_ : Kd.R Kd.bool 4 aM w.heap.size (fun _ => True) (.slice (some ⟨y, 0, none⟩) D.length W) al := (by rw [hw, bP.out]; exact aK.1); clear aK; replace a := bm (blk_grown (bkn a) hg (Kd.R_ne E.out a.out (by decide))); replace E := am hp_; replace HB := am (by rw [hw]; exact below_set (HB.out) bB.out : Below w.heap.size w aM); clear hg hw hp_) | ((with_reducible refine gate_dst (N := 21) rfl ?_); refine Kd.R_lit (Kd.int .i64) _ 3 ?hg (N := 21) ?hd (xs := ([j] : List Int)) (inner := [.int .i64 j]) (ok := fun _ => True) (okp := fun _ => True) ?hr ?hp (fun _ hk => hk) trivial (Below.refl _ _) (Nat.le_refl _) (by simp) ?_; (case hd => rfl); (case hg => rfl); (case hr => first | (go_simp; done) | (go_simp; rfl)); (case hp => exact (Reps.one (show Kd.M (Kd.int .i64) _ _ _ j [.int .i64 j] from rfl) (Reps.none _ _))); intro cs w18 ag hb ae af; clear ae af; (first | rw [← br.out] at ag | (simp only [Int.reduceToNat] at ag; rw [← br.out] at ag)); replace E := am (Kd.R_below (onR E) hb); have bS := am (Kd.R_lower ag (below_size (bn HB))); replace a := bb a hb; replace HB := bs HB hb; clear hb ag))
  go_loopg [6] k (fun kq v6 w' => ∃ (X : List Bool) (s : List Int), Aside0 (spec_WayReach.l0 kq X s g l = some r) ∧ Aside0 (kq ≤ k) ∧ Aside0 (Kd.R Kd.bool 4 w' w.heap.size (fun _ => True) (.slice (some ⟨y, 0, none⟩) D.length W) X) ∧ Aside0 (Kd.Q (Kd.int .i64) 3 w' w.heap.size (fun _ => True) v6 s) ∧ Bk w' aJ (.cells #[.int .i64 g, (.slice A l.length B)] 25 (0, 0)) ∧ Aside0 (Below w.heap.size w w'))
  case atStart => exact ⟨(al), (bp), H', ⟨Nat.le_refl _⟩, ⟨onR E⟩, ⟨Kd.Q_of_R (onR bS)⟩, ⟨bkn a⟩, ⟨bn HB⟩⟩
  case round =>
   clear H'; (try clear c4 c5 bg bh c6 bi bj bl bo p9 q9 bu bv bC); obtain ⟨X, s, HA, Y, m, n, a, HB⟩ := hrel; have o := (Kd.R_reads' m.out).1; rw [o] at m; (try simp only [o]); (try simp only [o] at a); (try simp only [o] at n); cases gk with
   | zero => exact absurd HA.out (by simp [spec_WayReach.l0])
   | succ k1 =>
    have H := HA.out; clear HA; simp only [spec_WayReach.l0] at H; by_cases I : (s.length : Int) > 0
    ·rw [if_pos I] at H; have bD := decide_eq_true I; have bE : decide (0 < s.length) = true := decide_eq_true (by omega); clear I; obtain ⟨aN, H⟩ := ig_ H; have bT := decide_eq_true aN; have bU : decide (0 < s.length) = true := decide_eq_true (by omega); clear aN; obtain ⟨d, bV, H⟩ := bi_ H; obtain ⟨an, H⟩ := ig_ H; have bW := eq_true an; have bX := decide_eq_true an; clear an; obtain ⟨J, aQ⟩ : ∃ y_ : List Int, y_ = (s.drop (1 : Int).toNat) := ⟨_, rfl⟩; replace H : (spec_WayReach.l1 k1 X J d 0 g l) = some r := nh_ aQ H; have bF := am aQ; clear aQ; have H' := am H; clear H; obtain ⟨ct, ap, bY, _⟩ := Kd.Q_slice n.out; subst bY; try go_wp2
     replace m := dR m; replace n := dQ n; replace a := dB a; replace HB := dL HB; have aq : 0 ≤ (0 : Int) := (by omega); have ar : 0 < (s.length : Int) := oa; obtain ⟨ah, bZ, ai⟩ := Kd.at_int (Kd.Q_reads' n.out).2.2 0 aq ar; cases bZ; have cu : (0 < s.length) = True := eq_true (by omega); (try rw [show ((0 : Int)).toNat = 0 from rfl] at ai); (try rw [Addr.add_zero'] at ai); obtain ⟨aq, ar⟩ := e2_ aq ar; refine s3_ 6 [] (bq a 0) (bq a 1) ai (fun Z => ?_); generalize wr.drew = w25 at m n a HB ai Z ⊢; refine pure_ (i := 1) (N := some 26) (v := ?_) (a' := ?_) #[false, true, false, false, false, false] rfl rfl (by kernel_rfl) (fun _ _ _ h => h) (Or.inl ⟨by rfl, ?_⟩) ?_ ?_; rotate_left; (intro w'; go_simp; with_reducible rfl); rotate_left; (simp only [Act.put, List.setIfInBounds_toArray, List.set_cons_zero, List.set_cons_succ, i64_w, i32_w]; rfl); refine pure_ (i := 2) (N := some 27) (v := ?_) (a' := ?_) #[false, true, true, false, false, false] rfl rfl (by kernel_rfl) (fun _ _ _ h => h) (Or.inl ⟨by rfl, ?_⟩) ?_ ?_; rotate_left; (intro w'; go_simp; with_reducible rfl); rotate_left; (simp only [Act.put, List.setIfInBounds_toArray, List.set_cons_zero, List.set_cons_succ, i64_w, i32_w]; rfl); refine take_ (i := 0) (N := some 25) (v := ?_) (a' := ?_) #[true, true, true, false, false, false] rfl rfl (by kernel_rfl) (fun _ _ _ h => h) (Or.inl ⟨by rfl, ?_⟩) Z ?_ ?_; rotate_left; (rintro w' ⟨s0, s1, s2⟩; go_simp; with_reducible rfl); rotate_left; (simp only [Act.put, List.setIfInBounds_toArray, List.set_cons_zero, List.set_cons_succ, i64_w, i32_w]; rfl); refine take_ (i := 3) (N := some 28) (v := ?_) (a' := ?_) #[true, true, true, true, false, false] rfl rfl (by kernel_rfl) (fun _ _ _ h => h) (Or.inl ⟨by rfl, ?_⟩) Z ?_ ?_; rotate_left; (rintro w' ⟨s0, s1, s2⟩; go_simp; with_reducible rfl); rotate_left; (simp only [Act.put, List.setIfInBounds_toArray, List.set_cons_zero, List.set_cons_succ, i64_w, i32_w]; rfl); refine one_ (i := 4) (N := some 29) #[true, true, true, true, true, false] rfl rfl (by kernel_rfl) (by decide) (fun K hK => ?_); refine gg_ Try.func60 #[.agg #[.int .i64 g, .slice A l.length B], .int .i64 (rd s 0)] ?_
     with_reducible refine (spec_l2Next.calls k1 g _ _ l (rd s 0) d _ ?z_1 ?z_2 bV.out).mono ?_
     (case z_1 => exact cb aC HB); (case z_2 => exact aD.out); rintro e b0 ⟨au, rfl, aR, hb⟩; have b1 := (hb.cell (World.block_lt_of_cell? _ _ (Z.2.2))).trans (Z.2.2); refine ⟨_, rfl, ?_⟩; replace m := am (Kd.R_below (onR m) hb); have av := am (Kd.R_lower (Kd.R_new' aR (Kd.Q_lt (onQ n))) (below_size (bn HB))); replace n := am (Kd.Q_elder' (onQ n) (Kd.R_base aR) hb); replace a := bb a hb; replace HB := bs HB hb; (try clear hb hk aR); refine hK.out _ _ ⟨(bc a 0), (bc a 1), b1⟩ (fun Z => ?_); clear hK K; refine nz_ 29 ?_; refine pure_ (i := 5) (N := some 7) (v := ?_) (a' := ?_) #[true, true, true, true, true, true] rfl rfl (by kernel_rfl) (fun _ _ _ h => h) (Or.inl ⟨by rfl, ?_⟩) ?_ ?_; rotate_left; (intro w'; go_simp; with_reducible rfl); rotate_left; (simp only [Act.put, List.setIfInBounds_toArray, List.set_cons_zero, List.set_cons_succ, i64_w, i32_w]; rfl); refine done_ (by kernel_rfl) ?_; have n_ := am (Kd.Q_mono (ok' := (fun k_ => some k_ ≠ (au : Value).ownBlock)) n.out (fun k_ hk => hk.2)); clear n; have n := n_; clear n_; have aw : (1 : Int) ≤ ((s.length : Int) : Int) := oa; obtain ⟨cv, bG, _, bH, _⟩ := info_parts info3; have b2 := cut_from (P := Try.prog) 39 3 .i64 Try.underlying39 bG 1 bH (some ah) s.length ap 1 (by omega) aw; have aj := Kd.Q_drop (k := (1 : Int).toNat) n.out (by omega); obtain ⟨aT, ax⟩ : ∃ A1, A1 = (if ap = (1 : Int).toNat then (some ah) else ((some ah) : Option Addr).map (·.add ((1 : Int).toNat * 1))) := ⟨_, rfl⟩; obtain ⟨ay, aU⟩ : ∃ c1, c1 = ap - (1 : Int).toNat := ⟨_, rfl⟩; have aV : J.length = s.length - (1 : Int).toNat := (by rw [bF.out, List.length_drop]); rw [← bF.out] at aj; rw [← aV, ← ax, ← aU] at b2; replace aj : Kd.Q (Kd.int .i64) 3 b0 w.heap.size (fun k_ => some k_ ≠ (au : Value).ownBlock) (.slice aT J.length ay) J := (by rw [ax, aU, aV]; exact aj); have b3 : Aside0 ((Value.slice aT J.length ay).ownBlock = (.slice (some ah) s.length ap : Value).ownBlock) := ⟨by rw [ax]; split <;> (cases ((some ah) : Option Addr) <;> rfl)⟩; clear aV bG bH n ax aU; have b4 := am aj; clear aj; replace aw := eq_true aw; have n_ := am (Kd.R_mono (ok' := fun k_ => (True ∧ some k_ ≠ (.slice aT J.length ay : Value).ownBlock)) av.out (fun k_ hk => ⟨trivial, (by rw [b3.out]; exact hk.2)⟩)); clear av; have av := n_; clear n_; try go_wp2
     go_loopg [6, 8] k1 (fun kq v6 v8 w' => ∃ (u : List Bool) (z : List Int) (c : Int), v8 = .int .i64 c ∧ Aside0 (spec_WayReach.l1 kq u z d c g l = some r) ∧ Aside0 (kq ≤ k1) ∧ Aside0 (Kd.R Kd.bool 4 w' w.heap.size (fun _ => True) (.slice (some ⟨y, 0, none⟩) X.length W) u) ∧ Aside0 (Kd.Q (Kd.int .i64) 3 w' w.heap.size (fun k_ => some k_ ≠ (au : Value).ownBlock) v6 z) ∧ Aside0 (Kd.R (Kd.int .i64) 3 w' w.heap.size (fun k_ => some k_ ≠ (v6 : Value).ownBlock) au d) ∧ Bk w' aJ (.cells #[.int .i64 g, (.slice A l.length B)] 25 (0, 0)) ∧ Aside0 (Below w.heap.size w w'))
     case atStart => exact ⟨(X), (J), (0), rs_, H', ⟨Nat.le_refl _⟩, ⟨by (try simp only [o]); (with_reducible repeat (first | apply Kd.R_alloc | apply Kd.R_drewN | apply Kd.R_drew)); exact m.out⟩, ⟨by (try simp only [o]); (with_reducible repeat (first | apply Kd.Q_alloc | apply Kd.Q_drewN | apply Kd.Q_drew)); exact b4.out⟩, ⟨by (try simp only [o]); (with_reducible repeat (first | apply Kd.R_alloc | apply Kd.R_drewN | apply Kd.R_drew)); exact Kd.R_mono av.out (fun _ hk => hk.2)⟩, ⟨by (try simp only [o]); (with_reducible repeat (first | refine blk_drewN ?_ _ | refine blk_drew ?_ | refine blk_alloc ?_ _)); exact a.out⟩, ⟨bn HB⟩⟩
     case round =>
      clear H'; (try clear c1 c2 c4 c5 bg bh c6 bi bj bl bo p9 q9 I bD bE aN bT bU an bW bX ay aw bu bv ai bC aq ar); obtain ⟨u, z, c, rfl, HA, aa, m, n, x, a, HB⟩ := hrel; have q := (Kd.R_reads' m.out).1; rw [q] at m; (try simp only [q]); (try simp only [q] at a); (try simp only [q] at n); (try simp only [q] at x); cases gk with
      | zero => exact absurd HA.out (by simp [spec_WayReach.l1])
      | succ k2 =>
       have H := HA.out; clear HA; simp only [spec_WayReach.l1] at H; by_cases ab : c < (d.length : Int)
       ·rw [if_pos ab] at H; have b5 := decide_eq_true ab; clear ab; obtain ⟨cw, H⟩ := id_ H; obtain ⟨cx, H⟩ := id_ H; obtain ⟨cy, H⟩ := id_ H; obtain ⟨bI, aW⟩ : ∃ b_ : Bool, b_ = (rdOf false u (rd d c)) := ⟨_, rfl⟩; replace H : (if (bI = true) then (spec_WayReach.l1 k2 u z d (wrap64 (c + 1)) g l) else (if z.length < 17592186044416 then (spec_WayReach.l1 k2 (u.set ((rd d c) : Int).toNat true) (z ++ [rd d c]) d (wrap64 (c + 1)) g l) else (none))) = some r := by rw [← aW] at H; exact H
        have bJ := am aW; clear aW; by_cases bK : (bI = true)
        ·subst bK; rw [if_pos rfl] at H; have H' := am H; clear H; obtain ⟨cz, cA, b6⟩ := Kd.R_slice x.out; subst b6; have L : 0 ≤ (c : Int) := oa; have O : c < (d.length : Int) := oa; obtain ⟨az, aX, b7⟩ := Kd.at_int (Kd.R_reads' x.out).2.2 c L O; cases aX; obtain ⟨L, O⟩ := e2_ L O; have T : 0 ≤ ((rd d c) : Int) := oa; have U : (rd d c) < (u.length : Int) := oa; obtain ⟨aY, aZ, G⟩ := Kd.at_bool (Kd.R_reads' m.out).2.2 (rd d c) T U; (try rw [← bJ.out] at G); obtain rfl : (⟨y, 0, none⟩ : Addr) = aY := (by injection aZ); (first | simp only [add_plain] at G | simp only [add_at] at G | simp only [Addr.add, Nat.zero_add] at G | skip); obtain ⟨T, U⟩ := e2_ T U; go_wp2; (try simp only [← q])
         go_roundg k2
         case measure => have := Y.out; have := aa.out; omega
         case rel => exact ⟨(u), (z), (wrap64 (c + 1)), rs_, H', ⟨by have := Y.out; have := aa.out; omega⟩, ⟨by (try simp only [o]); (try simp only [q]); (with_reducible repeat (first | apply Kd.R_alloc | apply Kd.R_drewN | apply Kd.R_drew)); exact m.out⟩, ⟨by (try simp only [o]); (try simp only [q]); (with_reducible repeat (first | apply Kd.Q_alloc | apply Kd.Q_drewN | apply Kd.Q_drew)); exact n.out⟩, ⟨by (try simp only [o]); (try simp only [q]); (with_reducible repeat (first | apply Kd.R_alloc | apply Kd.R_drewN | apply Kd.R_drew)); exact x.out⟩, ⟨by (try simp only [o]); (try simp only [q]); (with_reducible repeat (first | refine blk_drewN ?_ _ | refine blk_drew ?_ | refine blk_alloc ?_ _)); exact a.out⟩, ⟨bn HB⟩⟩
        ·obtain rfl := nt_ bK; rw [if_neg nf_] at H; obtain ⟨aA, a0⟩ : ∃ y_ : List Bool, y_ = (u.set ((rd d c) : Int).toNat true) := ⟨_, rfl⟩; replace H : (if z.length < 17592186044416 then (spec_WayReach.l1 k2 aA (z ++ [rd d c]) d (wrap64 (c + 1)) g l) else (none)) = some r := nh_ a0 H; have b8 := am a0; clear a0; obtain ⟨bL, H⟩ := ig_ H; have b9 := am bL; clear bL; obtain ⟨bM, a1⟩ : ∃ y_ : List Int, y_ = (z ++ [rd d c]) := ⟨_, rfl⟩; replace H : (spec_WayReach.l1 k2 aA bM d (wrap64 (c + 1)) g l) = some r := nh_ a1 H; have ca := am a1; clear a1; have H' := am H; clear H; obtain ⟨cB, cc, cd⟩ := Kd.R_slice x.out; subst cd; have L : 0 ≤ (c : Int) := oa; have O : c < (d.length : Int) := oa; obtain ⟨az, aX, b7⟩ := Kd.at_int (Kd.R_reads' x.out).2.2 c L O; cases aX; obtain ⟨L, O⟩ := e2_ L O; have T : 0 ≤ ((rd d c) : Int) := oa; have U : (rd d c) < (u.length : Int) := oa; obtain ⟨aY, aZ, G⟩ := Kd.at_bool (Kd.R_reads' m.out).2.2 (rd d c) T U; (try rw [← bJ.out] at G); obtain rfl : (⟨y, 0, none⟩ : Addr) = aY := (by injection aZ); (first | simp only [add_plain] at G | simp only [add_at] at G | simp only [Addr.add, Nat.zero_add] at G | skip); obtain ⟨T, U⟩ := e2_ T U; have a2 : 0 ≤ (c : Int) := oa; have a3 : c < (d.length : Int) := oa; obtain ⟨ce, cf, cC⟩ := Kd.at_int (Kd.R_reads' x.out).2.2 c a2 a3; obtain rfl : az = ce := (by injection cf); obtain ⟨a2, a3⟩ := e2_ a2 a3; have a4 : 0 ≤ ((rd d c) : Int) := oa; have a5 : ((rd d c) : Int) < ((u.length : Int) : Int) := oa; obtain ⟨cD, cE⟩ := Kd.R_celln false m.out ((rd d c) : Int) a4 a5; obtain ⟨a4, a5⟩ := e2_ a4 a5; have a6 := Kd.R_putg m.out ((rd d c) : Int) true
         go_wp2_with (first | ((with_reducible refine gate_store (t := 4) (p := 51) rfl ?_); refine store_event (t := 4) (p := 51) (v := ?vo_w39) (w1 := (wr.setCell ⟨y, ((rd d c) : Int).toNat, none⟩ (.bool true))) ?hg ?ho ?hn ?hr ?_; (case ho => rfl); (case hg => rfl); (case hn => rfl); (case hr => first | (go_simp; done) | (go_simp; rfl)); intro a7 hw; have hg : wr.grownBy a7 (some y) := (by rw [hw]; exact a6.2); have hp_ : Kd.R Kd.bool 4 a7 w.heap.size (fun _ => True) (.slice (some ⟨y, 0, none⟩) u.length W) aA := (by rw [hw, b8.out]; exact a6.1); clear a6; replace n := am (Kd.Q_over' (v := (.slice (some ⟨y, 0, none⟩) u.length W)) (onQ n) (Kd.R_typed m.out) (by decide) hg); replace x := am (Kd.R_over' (v := (.slice (some ⟨y, 0, none⟩) u.length W)) (onR x) (Kd.R_typed m.out) (by decide) hg); replace a := bm (blk_grown (bkn a) hg (Kd.R_ne m.out a.out (by decide))); replace m := am hp_; replace HB := am (by rw [hw]; exact below_set (HB.out) bB.out : Below w.heap.size w a7); clear hg hw hp_; have a8 : 0 ≤ (c : Int) := oa; have a9 : c < (d.length : Int) := oa; obtain ⟨cg, ch, cF⟩ := Kd.at_int (Kd.R_reads' x.out).2.2 c a8 a9; obtain rfl : az = cg := (by injection ch); obtain ⟨a8, a9⟩ := e2_ a8 a9) | ((with_reducible refine gate_builtin (b := .append) (xs := #[.tmp 52, .tmp 57]) rfl ?_); at_builtin; refine Kd.Q_append (Kd.int .i64) (w0 := w) w.heap.size rfl (.tmp 52) (.tmp 57) 39 3 (.int .i64 0) 8 rfl Try.underlying39 info3 rfl (by decide) (by omega) u6 z (rd d c) [.int .i64 (rd d c)] (fun k_ => some k_ ≠ (.slice (some az) d.length cc : Value).ownBlock) (fun _ => False) rfl rfl ?aP (fun _ hk => hk.elim) ?aF ?aO ?aB ?aS ?aL ?_; (case aP => exact rfl); (case aB => exact (bn HB)); (case aF => exact (fun k_ hk => Kd.fresh' (Kd.R_lt (onR x)) k_ hk)); (case aO => exact (onQ n)); (case aS => exact (below_size (bn HB))); (case aL => have := b9.out; omega); intro cG w40 ho hb hg bN; rw [← ca.out] at ho; replace m := am (Kd.R_over' (onR m) (Kd.Q_typed (onQ n)) (by decide) hg); replace x := am (Kd.R_after (ok := (fun _ => True)) (Kd.R_mono (onR x) (fun _ hk => ⟨trivial, hk⟩)) hg bN); replace a := bm (blk_grown (bkn a) hg (Kd.Q_ne n.out a.out (by decide))); replace HB := am hb; have ci := am ho; clear n; clear ho hb hg bN))
         (try simp only [← q])
         go_roundg k2
         case measure => have := Y.out; have := aa.out; omega
         case rel => exact ⟨(aA), (bM), (wrap64 (c + 1)), rs_, H', ⟨by have := Y.out; have := aa.out; omega⟩, ⟨by (try simp only [o]); (try simp only [q]); (with_reducible repeat (first | apply Kd.R_alloc | apply Kd.R_drewN | apply Kd.R_drew)); exact m.out⟩, ⟨by (try simp only [o]); (try simp only [q]); (with_reducible repeat (first | apply Kd.Q_alloc | apply Kd.Q_drewN | apply Kd.Q_drew)); exact ci.out⟩, ⟨by (try simp only [o]); (try simp only [q]); (with_reducible repeat (first | apply Kd.R_alloc | apply Kd.R_drewN | apply Kd.R_drew)); exact Kd.R_mono x.out (fun _ hk => hk.2)⟩, ⟨by (try simp only [o]); (try simp only [q]); (with_reducible repeat (first | refine blk_drewN ?_ _ | refine blk_drew ?_ | refine blk_alloc ?_ _)); exact a.out⟩, ⟨bn HB⟩⟩
       ·rw [if_neg ab] at H; have b5 := decide_eq_false ab; clear ab; have H' := am H; clear H; obtain ⟨cH, cI, cj⟩ := Kd.R_slice x.out; subst cj; go_wp2; (try simp only [← o, ← q])
        go_roundg k2
        case measure => have := Y.out; have := aa.out; omega
        case rel => exact ⟨(u), (z), H', ⟨by have := Y.out; have := aa.out; omega⟩, ⟨by (try simp only [o]); (try simp only [q]); (with_reducible repeat (first | apply Kd.R_alloc | apply Kd.R_drewN | apply Kd.R_drew)); exact m.out⟩, ⟨by (try simp only [o]); (try simp only [q]); (with_reducible repeat (first | apply Kd.Q_alloc | apply Kd.Q_drewN | apply Kd.Q_drew)); exact Kd.Q_mono n.out (fun _ hk => trivial)⟩, ⟨by (try simp only [o]); (try simp only [q]); (with_reducible repeat (first | refine blk_drewN ?_ _ | refine blk_drew ?_ | refine blk_alloc ?_ _)); exact a.out⟩, ⟨bn HB⟩⟩
    ·rw [if_neg I] at H; have bD := decide_eq_false I; have bE : decide (0 < s.length) = false := decide_eq_false (by omega); clear I; obtain rfl := Option.some.inj H; obtain ⟨cJ, cK, ck, _⟩ := Kd.Q_slice n.out; subst ck; go_wp2
     go_ret
     exact ⟨_, er_, onR m, bn HB⟩
 ·obtain rfl := nt_ c4; rw [if_neg nf_] at H; obtain ⟨cl, ba⟩ : ∃ y_ : List Bool, y_ = (([] : List Bool)) := ⟨_, rfl⟩; replace H : (some cl) = some r := nh_ ba H; have bO := am ba; clear ba; obtain rfl := Option.some.inj H; go_enter Try.func33, Try.ntmps33
  go_wp2_with (first | ((with_reducible refine gate_dst (N := 2) rfl ?_); refine bx_ 2 #[.int .i64 g, .slice A l.length B] 25 HB ?_; clear HB; intro aJ hg w43 hb a bQ HB; clear hb hg; have cL := c2 a) | ((with_reducible refine gate_callee (f := 41) rfl ?_); refine gl_ (some 11) Try.func41 #[.agg #[.int .i64 g, .slice A l.length B], .int .i64 j] ?_; (with_reducible refine (spec_l1Knot.calls k g _ _ l j false _ ?z_1 ?z_2 A3.out).mono ?_); (case z_1 => exact cb aC HB); (case z_2 => exact aD.out); rintro e w45 ⟨rfl, hb⟩; refine ⟨_, rfl, ?_⟩; replace a := bb a hb; replace HB := bs HB hb; (try clear hb)) | ((with_reducible refine gate_dst (N := 13) rfl ?_); refine Kd.R_lit Kd.bool _ 4 ?hg (N := 13) ?hd (xs := ([] : List Bool)) (inner := []) (ok := fun _ => True) (okp := fun _ => True) ?hr ?hp (fun _ hk => hk) trivial (Below.refl _ _) (Nat.le_refl _) (by simp) ?_; (case hd => rfl); (case hg => rfl); (case hr => first | (go_simp; done) | (go_simp; rfl)); (case hp => exact (Reps.none _ _)); intro cM w46 ak hb ae af; clear ae af; (first | rw [← bO.out] at ak | (simp only [Int.reduceToNat] at ak; rw [← bO.out] at ak)); have cm := am (Kd.R_lower ak (below_size (bn HB))); replace a := bb a hb; replace HB := bs HB hb; clear hb ak))
  go_ret
  exact ⟨_, er_, onR cm, bn HB⟩

/-! ### slices_Index_impl_Tie_impl_Tie: function 62 -/
def slices_Index_impl_Tie_impl_Tie.l0 : Nat → List (S44) → Int → Int → Int → Int → Option (Int)
 | 0, _, _, _, _, _ => none
 | k + 1, x0, x7, x8, x370000, x370001 => if x8 < x7 then (if 0 ≤ x8 then (if x8 < (x0.length : Int) then (if (x370000 == ((rd_T44 x0 x8).f0) && (x370001 == ((rd_T44 x0 x8).f1))) = true then (some x8) else (slices_Index_impl_Tie_impl_Tie.l0 k x0 x7 (wrap64 (x8 + 1)) x370000 x370001)) else (none)) else (none)) else (some (-1))
def slices_Index_impl_Tie_impl_Tie.f (k : Nat) (l0 : List (S44)) (a1_0 : Int) (a1_1 : Int) : Option (Int) := slices_Index_impl_Tie_impl_Tie.l0 k l0 (l0.length : Int) 0 a1_0 a1_1
theorem slices_Index_impl_Tie_impl_Tie.mono_l : ∀ k, (∀ a b c d e, LeO (slices_Index_impl_Tie_impl_Tie.l0 k a b c d e) (slices_Index_impl_Tie_impl_Tie.l0 (k + 1) a b c d e))
 | 0 => fun _ _ _ _ _ r h => by simp [slices_Index_impl_Tie_impl_Tie.l0] at h
 | k + 1 => by
  have ih0 := slices_Index_impl_Tie_impl_Tie.mono_l k
  ·intro a b c d e; unfold slices_Index_impl_Tie_impl_Tie.l0; exact mo_
theorem slices_Index_impl_Tie_impl_Tie.mono : ∀ a b c k, LeO (slices_Index_impl_Tie_impl_Tie.f k a b c) (slices_Index_impl_Tie_impl_Tie.f (k + 1) a b c) := by
 intro a b c k; have ih0 := slices_Index_impl_Tie_impl_Tie.mono_l k; unfold slices_Index_impl_Tie_impl_Tie.f; exact mo_
set_option maxHeartbeats 8000000 in
set_option maxRecDepth 100000 in
theorem slices_Index_impl_Tie_impl_Tie.calls (k : Nat) (q : Option Addr) (s : Nat) (l0 : List (S44)) (b : Int) (c : Int) (r : Int) (w : World) (t : Kd.C k44 w q l0.length l0) (u : l0.length ≤ s) (h : slices_Index_impl_Tie_impl_Tie.f k l0 b c = some r) :
  Calls Try.prog 62 #[.slice q l0.length s, .agg #[.int .i64 b, .int .i64 c]] w fun e w' => e = .returned (.int .i64 r) ∧ Below w.heap.size w w' := by
 have K := Try.underlying44; have x := am t; have HC0 := am u; clear t u; have HB := am (Below.refl w.heap.size w)
 have H : (slices_Index_impl_Tie_impl_Tie.l0 k l0 (l0.length : Int) 0 b c) = some r := h
 clear h; have H' := am H; clear H; go_enter Try.func62, Try.ntmps62
 go_wp2_with (first | ((with_reducible refine gate_dst (N := 3) rfl ?_); refine bx_ 3 #[.int .i64 b, .int .i64 c] 44 HB ?_; clear HB; intro o hg y hb g z HB; clear hb hg))
 repeat (go_quiet (first | ((with_reducible refine gate_dst (N := 3) rfl ?_); refine bx_ 3 #[.int .i64 b, .int .i64 c] 44 HB ?_; clear HB; intro o hg y hb g z HB; clear hb hg)); try go_wp2_with (first | ((with_reducible refine gate_dst (N := 3) rfl ?_); refine bx_ 3 #[.int .i64 b, .int .i64 c] 44 HB ?_; clear HB; intro o hg y hb g z HB; clear hb hg)))
 go_loopg [8] k (fun kq B w' => ∃ (a : Int), B = .int .i64 a ∧ Aside0 (slices_Index_impl_Tie_impl_Tie.l0 kq l0 (l0.length : Int) a b c = some r) ∧ Aside0 (kq ≤ k) ∧ Bk w' o (.cells #[.int .i64 b, .int .i64 c] 44 (0, 0)) ∧ Aside0 (Below w.heap.size w w'))
 case atStart => exact ⟨(0), rs_, H', ⟨Nat.le_refl _⟩, ⟨bkn g⟩, ⟨bn HB⟩⟩
 case round =>
  clear H'; obtain ⟨a, rfl, HA, A, g, HB⟩ := hrel; cases gk with
  | zero => exact absurd HA.out (by simp [slices_Index_impl_Tie_impl_Tie.l0])
  | succ k1 =>
   have H := HA.out; clear HA; simp only [slices_Index_impl_Tie_impl_Tie.l0] at H; by_cases l : a < (l0.length : Int)
   ·rw [if_pos l] at H; have D := decide_eq_true l; clear l; obtain ⟨L, H⟩ := id_ H; obtain ⟨M, H⟩ := id_ H; by_cases d : (b == ((rd_T44 l0 a).f0) && (c == ((rd_T44 l0 a).f1))) = true
    ·rw [if_pos d] at H; have E : (b == ((rd_T44 l0 a).f0) && (c == ((rd_T44 l0 a).f1))) = true := d; (try (have G : decide (b = ((rd_T44 l0 a).f0) && (c == ((rd_T44 l0 a).f1))) = true := by simpa using d)); (try (have I : (b == ((rd_T44 l0 a).f0) && (c == ((rd_T44 l0 a).f1))) = true := by simpa using d)); clear d; obtain rfl := Option.some.inj H; have O := c2 g; have i : 0 ≤ (a : Int) := oa; have j : a < (l0.length : Int) := oa; obtain ⟨J, p, m, n⟩ := at_T44 x.out a i j; cases p; replace m := hc_ HB m; replace n := hc_ HB n; obtain ⟨i, j⟩ := e2_ i j; go_wp2
     repeat (go_quiet (fail); try go_wp2)
     go_ret
     exact ⟨er_, bn HB⟩
    ·rw [if_neg d] at H; have E : (b == ((rd_T44 l0 a).f0) && (c == ((rd_T44 l0 a).f1))) = false := by simpa using d
     (try (have G : decide (b = ((rd_T44 l0 a).f0) && (c == ((rd_T44 l0 a).f1))) = false := by simpa using d)); (try (have I : (b == ((rd_T44 l0 a).f0) && (c == ((rd_T44 l0 a).f1))) = false := by simpa using d)); (try (have P : ¬ (b = ((rd_T44 l0 a).f0) && (c == ((rd_T44 l0 a).f1))) := by simpa using d)); clear d; have H' := am H; clear H; have T := c2 g; have i : 0 ≤ (a : Int) := oa; have j : a < (l0.length : Int) := oa; obtain ⟨J, p, m, n⟩ := at_T44 x.out a i j; cases p; replace m := hc_ HB m; replace n := hc_ HB n; obtain ⟨i, j⟩ := e2_ i j; go_wp2
     repeat (go_quiet (fail); try go_wp2)
     go_roundg k1
     case measure => have := A.out; omega
     case rel => exact ⟨(wrap64 (a + 1)), rs_, H', ⟨by have := A.out; omega⟩, ⟨bkn g⟩, ⟨bn HB⟩⟩
   ·rw [if_neg l] at H; have D := decide_eq_false l; clear l; obtain rfl := Option.some.inj H; go_wp2
    repeat (go_quiet (fail); try go_wp2)
    go_ret
    exact ⟨er_, bn HB⟩

/-! ### slices_Contains_impl_Tie_impl_Tie: function 37 -/
def slices_Contains_impl_Tie_impl_Tie.f (k : Nat) (l0 : List (S44)) (a1_0 : Int) (a1_1 : Int) : Option (Bool) := (slices_Index_impl_Tie_impl_Tie.f k l0 a1_0 a1_1).bind fun t372 => (some (decide (t372 ≥ 0)))
theorem slices_Contains_impl_Tie_impl_Tie.mono : ∀ a b c k, LeO (slices_Contains_impl_Tie_impl_Tie.f k a b c) (slices_Contains_impl_Tie_impl_Tie.f (k + 1) a b c) := by
 intro a b c k; unfold slices_Contains_impl_Tie_impl_Tie.f; have m0_ := @slices_Index_impl_Tie_impl_Tie.mono; exact mo_
set_option maxHeartbeats 8000000 in
set_option maxRecDepth 100000 in
theorem slices_Contains_impl_Tie_impl_Tie.calls (k : Nat) (d : Option Addr) (g : Nat) (a : List (S44)) (b : Int) (c : Int) (r : Bool) (w : World) (l : Kd.C k44 w d a.length a) (m : a.length ≤ g) (h : slices_Contains_impl_Tie_impl_Tie.f k a b c = some r) :
  Calls Try.prog 37 #[.slice d a.length g, .agg #[.int .i64 b, .int .i64 c]] w fun e w' => e = .returned (.bool r) ∧ Below w.heap.size w w' := by
 have q := Try.underlying44; have n := am l; have o := am m; clear l m; have HB := am (Below.refl w.heap.size w)
 have H : ((slices_Index_impl_Tie_impl_Tie.f k a b c).bind fun i => (some (decide (i ≥ 0)))) = some r := h
 clear h; obtain ⟨i, p, H⟩ := bi_ H; obtain rfl := Option.some.inj H; go_enter Try.func37, Try.ntmps37
 go_wp2_with (first | ((with_reducible refine gate_dst (N := 3) rfl ?_); refine bx_ 3 #[.int .i64 b, .int .i64 c] 44 HB ?_; clear HB; intro s hg w4 hb j t HB; clear hb hg; have u := c2 j) | ((with_reducible refine gate_callee (f := 62) rfl ?_); refine gl_ (some 7) Try.func62 #[.slice d a.length g, .agg #[.int .i64 b, .int .i64 c]] ?_; (with_reducible refine (slices_Index_impl_Tie_impl_Tie.calls k _ _ a b c i _ ?z_1 ?z_2 p.out).mono ?_); (case z_1 => exact cb n HB); (case z_2 => exact o.out); rintro e w6 ⟨rfl, hb⟩; refine ⟨_, rfl, ?_⟩; replace j := bb j hb; replace HB := bs HB hb; (try clear hb)))
 go_ret
 exact ⟨er_, bn HB⟩

/-! ### impl_tie: function 51 -/
def impl_tie.f (a0 : Int) (a1 : Int) : Option (Int × Int) := some (mn a0 a1, mx a0 a1)
set_option maxHeartbeats 8000000 in
set_option maxRecDepth 100000 in
theorem impl_tie.calls (a : Int) (b : Int) (c : Int) (d : Int) (w : World) (h : impl_tie.f a b = some (c, d)) :
  Calls Try.prog 51 #[.int .i64 a, .int .i64 b] w fun e w' => e = .returned (.agg #[.int .i64 c, .int .i64 d]) ∧ Below w.heap.size w w' := by
 have o := Try.underlying44; have HB := am (Below.refl w.heap.size w)
 have H : (some (mn a b, mx a b)) = some (c, d) := h
 clear h; obtain ⟨g, i⟩ : ∃ j_ : Int, (mn a b) = j_ := ⟨_, rfl⟩; replace H : (some (g, mx a b)) = some (c, d) := by first | (rw [i] at H; exact H) | (simp only [i] at H ⊢; exact H)
 have p : (if b < a then b else a) = g := i; obtain ⟨l, j⟩ : ∃ j_ : Int, (mx a b) = j_ := ⟨_, rfl⟩; replace H : (some (g, l)) = some (c, d) := by first | (rw [j] at H; exact H) | (simp only [j] at H ⊢; exact H)
 have q : (if a < b then b else a) = l := j; simp only [Option.some.injEq, Prod.mk.injEq] at H; obtain ⟨rfl, rfl⟩ := H; go_enter Try.func51, Try.ntmps51
 go_wp2_with (first | ((with_reducible refine gate_dst (N := 4) rfl ?_); refine bx_ 4 #[.int .i64 0, .int .i64 0] 44 HB ?_; clear HB; intro n hg w5 hb m s HB; clear hb hg; have t := c2 m))
 refine bodyPost_ret (results_cell_row rfl _ _ n 44 #[.int .i64 g, .int .i64 l] (0, 0) _ rfl (bkn m) Try.underlying44 rfl (by kernel_rfl)) rfl ?_; exact ⟨by first | rfl | (simp [errW_none, errW_some] <;> rfl) | (simp only [← i, ← j]; first | rfl | (simp [errW_none, errW_some] <;> rfl)) | (simp [*, errW_none, errW_some] <;> rfl), bn HB⟩

/-! ### impl_Net_has: function 45 -/
def impl_Net_has.f (k : Nat) (a0_0 : Int) (l0_1 : List (S44)) (a1 : Int) (a2 : Int) : Option (Bool) := (impl_tie.f a1 a2).bind fun bt412 => ((slices_Contains_impl_Tie_impl_Tie.f k l0_1 bt412.1 bt412.2).bind fun t414 => (some t414))
theorem impl_Net_has.mono : ∀ a b c d k, LeO (impl_Net_has.f k a b c d) (impl_Net_has.f (k + 1) a b c d) := by
 intro a b c d k; unfold impl_Net_has.f; have m0_ := @slices_Contains_impl_Tie_impl_Tie.mono; exact mo_
set_option maxHeartbeats 8000000 in
set_option maxRecDepth 100000 in
theorem impl_Net_has.calls (k : Nat) (m : Int) (g : Option Addr) (j : Nat) (b : List (S44)) (c : Int) (d : Int) (r : Bool) (w : World) (q : Kd.C k44 w g b.length b) (s : b.length ≤ j) (h : impl_Net_has.f k m b c d = some r) :
  Calls Try.prog 45 #[.agg #[.int .i64 m, .slice g b.length j], .int .i64 c, .int .i64 d] w fun e w' => e = .returned (.bool r) ∧ Below w.heap.size w w' := by
 have B := Try.underlying25; have u := am q; have x := am s; clear q s; have HB := am (Below.refl w.heap.size w)
 have H : ((impl_tie.f c d).bind fun t => ((slices_Contains_impl_Tie_impl_Tie.f k b t.1 t.2).bind fun n => (some n))) = some r := h
 clear h; obtain ⟨⟨o, p⟩, y, H⟩ := bi_ H; (try dsimp only at H); obtain ⟨n, z, H⟩ := bi_ H; obtain rfl := Option.some.inj H; go_enter Try.func45, Try.ntmps45
 try go_wp2_with (first | ((with_reducible refine gate_dst (N := 3) rfl ?_); refine bx_ 3 #[.int .i64 m, .slice g b.length j] 25 HB ?_; clear HB; intro D hg A hb a E HB; clear hb hg))
 replace a := dB a; replace HB := dL HB; refine s2_ 7 [] (bq a 0) (bq a 1) (fun l => ?_); generalize A.drew = w7 at a HB l ⊢; refine pure_ (i := 0) (N := some 7) (v := ?_) (a' := ?_) #[true, false, false, false, false, false, false] rfl rfl (by kernel_rfl) (fun _ _ _ h => h) (Or.inl ⟨by rfl, ?_⟩) ?_ ?_; rotate_left; (intro w'; go_simp; with_reducible rfl); rotate_left; (simp only [Act.put, List.setIfInBounds_toArray, List.set_cons_zero, List.set_cons_succ, i64_w, i32_w]; rfl); refine pure_ (i := 2) (N := some 9) (v := ?_) (a' := ?_) #[true, false, true, false, false, false, false] rfl rfl (by kernel_rfl) (fun _ _ _ h => h) (Or.inl ⟨by rfl, ?_⟩) ?_ ?_; rotate_left; (intro w'; go_simp; with_reducible rfl); rotate_left; (simp only [Act.put, List.setIfInBounds_toArray, List.set_cons_zero, List.set_cons_succ, i64_w, i32_w]; rfl); refine pure_ (i := 3) (N := some 10) (v := ?_) (a' := ?_) #[true, false, true, true, false, false, false] rfl rfl (by kernel_rfl) (fun _ _ _ h => h) (Or.inl ⟨by rfl, ?_⟩) ?_ ?_; rotate_left; (intro w'; go_simp; with_reducible rfl); rotate_left; (simp only [Act.put, List.setIfInBounds_toArray, List.set_cons_zero, List.set_cons_succ, i64_w, i32_w]; rfl); refine take_ (i := 1) (N := some 8) (v := ?_) (a' := ?_) #[true, true, true, true, false, false, false] rfl rfl (by kernel_rfl) (fun _ _ _ h => h) (Or.inl ⟨by rfl, ?_⟩) l ?_ ?_; rotate_left; (rintro w' ⟨s0, s1⟩; go_simp; with_reducible rfl); rotate_left; (simp only [Act.put, List.setIfInBounds_toArray, List.set_cons_zero, List.set_cons_succ, i64_w, i32_w]; rfl); refine one_ (i := 4) (N := some 11) #[true, true, true, true, true, false, false] rfl rfl (by kernel_rfl) (by decide) (fun K hK => ?_); refine gg_ Try.func51 #[.int .i64 c, .int .i64 d] ?_
 with_reducible refine (impl_tie.calls c d o p _ y.out).mono ?_
 rintro e w8 ⟨rfl, hb⟩; refine ⟨_, rfl, ?_⟩; replace a := bb a hb; replace HB := bs HB hb; (try clear hb); refine hK.out _ _ ⟨(bc a 0), (bc a 1)⟩ (fun l => ?_); clear hK K; refine nz_ 11 ?_; refine one_ (i := 5) (N := some 12) #[true, true, true, true, true, true, false] rfl rfl (by kernel_rfl) (by decide) (fun K hK => ?_); refine gg_ Try.func37 #[.slice g b.length j, .agg #[.int .i64 o, .int .i64 p]] ?_
 with_reducible refine (slices_Contains_impl_Tie_impl_Tie.calls k _ _ b o p n _ ?z_1 ?z_2 z.out).mono ?_
 (case z_1 => exact cb u HB); (case z_2 => exact x.out); rintro e w9 ⟨rfl, hb⟩; refine ⟨_, rfl, ?_⟩; replace a := bb a hb; replace HB := bs HB hb; (try clear hb); refine hK.out _ _ ⟨(bc a 0), (bc a 1)⟩ (fun l => ?_); clear hK K; refine nz_ 12 ?_; refine pure_ (i := 6) (N := some 6) (v := ?_) (a' := ?_) #[true, true, true, true, true, true, true] rfl rfl (by kernel_rfl) (fun _ _ _ h => h) (Or.inl ⟨by rfl, ?_⟩) ?_ ?_; rotate_left; (intro w'; go_simp; with_reducible rfl); rotate_left; (simp only [Act.put, List.setIfInBounds_toArray, List.set_cons_zero, List.set_cons_succ, i64_w, i32_w]; rfl); refine done_ (by kernel_rfl) ?_; try go_wp2
 go_ret
 exact ⟨er_, bn HB⟩

/-! ### slices_Index_int_int: function 80 -/
def slices_Index_int_int.l0 : Nat → List Int → Int → Int → Int → Option (Int)
 | 0, _, _, _, _ => none
 | k + 1, x0, x1, x7, x8 => if x8 < x7 then (if 0 ≤ x8 then (if x8 < (x0.length : Int) then (if x1 = (rd x0 x8) then (some x8) else (slices_Index_int_int.l0 k x0 x1 x7 (wrap64 (x8 + 1)))) else (none)) else (none)) else (some (-1))
def slices_Index_int_int.f (k : Nat) (l0 : List Int) (a1 : Int) : Option (Int) := slices_Index_int_int.l0 k l0 a1 (l0.length : Int) 0
theorem slices_Index_int_int.mono_l : ∀ k, (∀ a b c d, LeO (slices_Index_int_int.l0 k a b c d) (slices_Index_int_int.l0 (k + 1) a b c d))
 | 0 => fun _ _ _ _ r h => by simp [slices_Index_int_int.l0] at h
 | k + 1 => by
  have ih0 := slices_Index_int_int.mono_l k
  ·intro a b c d; unfold slices_Index_int_int.l0; exact mo_
theorem slices_Index_int_int.mono : ∀ a b k, LeO (slices_Index_int_int.f k a b) (slices_Index_int_int.f (k + 1) a b) := by
 intro a b k; have ih0 := slices_Index_int_int.mono_l k; unfold slices_Index_int_int.f; exact mo_
set_option maxHeartbeats 8000000 in
set_option maxRecDepth 100000 in
theorem slices_Index_int_int.calls (k : Nat) (l : Option Addr) (m : Nat) (l0 : List Int) (b : Int) (r : Int) (w : World) (n : Kd.C (Kd.int .i64) w l l0.length l0) (o : l0.length ≤ m) (h : slices_Index_int_int.f k l0 b = some r) :
  Calls Try.prog 80 #[.slice l l0.length m, .int .i64 b] w fun e w' => e = .returned (.int .i64 r) ∧ Drawn0 w w' := by
 have p := am n; have HC0 := am o; clear n o
 have H : (slices_Index_int_int.l0 k l0 b (l0.length : Int) 0) = some r := h
 clear h; have H' := am H; clear H; go_enter Try.func80, Try.ntmps80; go_wp2
 go_loopg [8] k (fun kq s w' => ∃ (a : Int), s = .int .i64 a ∧ Aside0 (slices_Index_int_int.l0 kq l0 b (l0.length : Int) a = some r) ∧ Aside0 (kq ≤ k) ∧ Drawn0 w w')
 case atStart => exact ⟨(0), rs_, H', ⟨Nat.le_refl _⟩, by repeat (first | exact Drawn0.refl _ | apply Drawn0.step)⟩
 case round =>
  clear H'; obtain ⟨a, rfl, HA, q, ⟨m1, rfl⟩⟩ := hrel; cases gk with
  | zero => exact absurd HA.out (by simp [slices_Index_int_int.l0])
  | succ k1 =>
   have H := HA.out; clear HA; simp only [slices_Index_int_int.l0] at H; by_cases i : a < (l0.length : Int)
   ·rw [if_pos i] at H; have t := decide_eq_true i; clear i; obtain ⟨A, H⟩ := id_ H; obtain ⟨B, H⟩ := id_ H; by_cases c : b = (rd l0 a)
    ·rw [if_pos c] at H; have u : (b == (rd l0 a)) = true := beq_iff_eq.mpr c; have x : (b != (rd l0 a)) = false := bne_eq_false_iff_eq.mpr c; clear c; obtain rfl := Option.some.inj H; have d : 0 ≤ (a : Int) := oa; have g : a < (l0.length : Int) := oa; obtain ⟨y, j, z⟩ := Kd.at_int p.out a d g; cases j; obtain ⟨d, g⟩ := e2_ d g; go_wp2
     go_ret
     exact ⟨rs_, by repeat (first | exact Drawn0.refl _ | apply Drawn0.step)⟩
    ·rw [if_neg c] at H; have u : (b == (rd l0 a)) = false := beq_eq_false_iff_ne.mpr c; have x : (b != (rd l0 a)) = true := bne_iff_ne.mpr c; have H' := am H; clear H; have d : 0 ≤ (a : Int) := oa; have g : a < (l0.length : Int) := oa; obtain ⟨y, j, z⟩ := Kd.at_int p.out a d g; cases j; obtain ⟨d, g⟩ := e2_ d g; go_wp2
     go_roundg k1
     case measure => have := q.out; omega
     case rel => exact ⟨(wrap64 (a + 1)), rs_, H', ⟨by have := q.out; omega⟩, by repeat (first | exact Drawn0.refl _ | apply Drawn0.step)⟩
   ·rw [if_neg i] at H; have t := decide_eq_false i; clear i; obtain rfl := Option.some.inj H; go_wp2
    go_ret
    exact ⟨rs_, by repeat (first | exact Drawn0.refl _ | apply Drawn0.step)⟩

/-! ### slices_Contains_int_int: function 74 -/
def slices_Contains_int_int.f (k : Nat) (l0 : List Int) (a1 : Int) : Option (Bool) := (slices_Index_int_int.f k l0 a1).bind fun t416 => (some (decide (t416 ≥ 0)))
theorem slices_Contains_int_int.mono : ∀ a b k, LeO (slices_Contains_int_int.f k a b) (slices_Contains_int_int.f (k + 1) a b) := by
 intro a b k; unfold slices_Contains_int_int.f; have m0_ := @slices_Index_int_int.mono; exact mo_
set_option maxHeartbeats 8000000 in
set_option maxRecDepth 100000 in
theorem slices_Contains_int_int.calls (k : Nat) (c : Option Addr) (d : Nat) (a : List Int) (b : Int) (r : Bool) (w : World) (i : Kd.C (Kd.int .i64) w c a.length a) (j : a.length ≤ d) (h : slices_Contains_int_int.f k a b = some r) :
  Calls Try.prog 74 #[.slice c a.length d, .int .i64 b] w fun e w' => e = .returned (.bool r) ∧ Drawn0 w w' := by
 have l := am i; have m := am j; clear i j
 have H : ((slices_Index_int_int.f k a b).bind fun g => (some (decide (g ≥ 0)))) = some r := h
 clear h; obtain ⟨g, n, H⟩ := bi_ H; obtain rfl := Option.some.inj H; go_enter Try.func74, Try.ntmps74
 go_wp2_with (first | ((with_reducible refine gate_callee (f := 80) rfl ?_); refine gl_ (some 7) Try.func80 #[.slice c a.length d, .int .i64 b] ?_; (with_reducible refine (slices_Index_int_int.calls k _ _ a b g _ ?z_1 ?z_2 n.out).mono ?_); (case z_1 => repeat (first | exact l.out | (with_reducible refine Kd.C_alloc ?_ _) | (with_reducible refine Kd.C_drewN ?_ _) | (with_reducible refine Kd.C_drew ?_))); (case z_2 => exact m.out); rintro e w' ⟨rfl, ⟨nd, rfl⟩⟩; refine ⟨_, rfl, ?_⟩))
 go_ret
 exact ⟨rs_, by repeat (first | exact Drawn0.refl _ | apply Drawn0.step)⟩

end Go.Proofs.Ytlddkafpbhjpdaa.F
