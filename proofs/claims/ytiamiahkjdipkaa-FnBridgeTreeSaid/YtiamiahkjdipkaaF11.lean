-- By oprint.py.
import Derived.Test.YtiamiahkjdipkaaF0
import Derived.Test.YtiamiahkjdipkaaF1
namespace Go.Proofs.Ytiamiahkjdipkaa.F
open Go.RowKit Go.Proofs.YtiamiahkjdipkaaW.PrintWords Go.Proofs.YtiamiahkjdipkaaW.PrintLast Go.Proofs.YtiamiahkjdipkaaW.PrintMore
attribute [local go_sem] max2_int min2_int max_two min_two max_three min_three max_four min_four
set_option linter.unusedVariables false
set_option linter.unusedSimpArgs false

attribute [local go_sem high] eqA35
/-! ### impl_Net_parts: function 83 -/
mutual
def impl_Net_parts.l0 : Nat → List Int → Int → Int → Int → List (S35) → Option (List Int)
 | 0, _, _, _, _, _ => none
 | k + 1, x3, x11, x12, x276000, x276001 => if x12 < x11 then (if x3.length < 17592186044416 then (impl_Net_parts.l0 k (x3 ++ [x12]) x11 (wrap64 (x12 + 1)) x276000 x276001) else (none)) else (impl_Net_parts.l1 k x3 true x276000 x276001)
def impl_Net_parts.l1 : Nat → List Int → Bool → Int → List (S35) → Option (List Int)
 | 0, _, _, _, _ => none
 | k + 1, x3, x5, x276000, x276001 => if x5 = true then (impl_Net_parts.l2 k x3 false x276001 (x276001.length : Int) 0 x276000 x276001) else (some x3)
def impl_Net_parts.l2 : Nat → List Int → Bool → List (S35) → Int → Int → Int → List (S35) → Option (List Int)
 | 0, _, _, _, _, _, _, _ => none
 | k + 1, x3, x5, x22, x23, x24, x276000, x276001 => if x24 < x23 then (if 0 ≤ x24 then (if x24 < (x22.length : Int) then (if 0 ≤ ((rd_T35 x22 x24).f0) then (if ((rd_T35 x22 x24).f0) < (x3.length : Int) then (if 0 ≤ ((rd_T35 x22 x24).f1) then (if ((rd_T35 x22 x24).f1) < (x3.length : Int) then (if (rd x3 ((rd_T35 x22 x24).f0)) = (rd x3 ((rd_T35 x22 x24).f1)) then (impl_Net_parts.l2 k x3 x5 x22 x23 (wrap64 (x24 + 1)) x276000 x276001) else (impl_Net_parts.l2 k ((x3.set (((rd_T35 x22 x24).f0) : Int).toNat (mn (rd x3 ((rd_T35 x22 x24).f0)) (rd x3 ((rd_T35 x22 x24).f1)))).set (((rd_T35 x22 x24).f1) : Int).toNat (mn (rd x3 ((rd_T35 x22 x24).f0)) (rd x3 ((rd_T35 x22 x24).f1)))) true x22 x23 (wrap64 (x24 + 1)) x276000 x276001)) else (none)) else (none)) else (none)) else (none)) else (none)) else (none)) else (impl_Net_parts.l1 k x3 x5 x276000 x276001)
end
def impl_Net_parts.f (k : Nat) (a0_0 : Int) (l0_1 : List (S35)) : Option (List Int) := impl_Net_parts.l0 k (([] : List Int)) a0_0 0 a0_0 l0_1
theorem impl_Net_parts.mono_l : ∀ k, (∀ a b c d e, LeO (impl_Net_parts.l0 k a b c d e) (impl_Net_parts.l0 (k + 1) a b c d e)) ∧ (∀ a b c d, LeO (impl_Net_parts.l1 k a b c d) (impl_Net_parts.l1 (k + 1) a b c d)) ∧ (∀ a b c d e f g, LeO (impl_Net_parts.l2 k a b c d e f g) (impl_Net_parts.l2 (k + 1) a b c d e f g))
 | 0 => ⟨fun _ _ _ _ _ r h => by simp [impl_Net_parts.l0] at h, fun _ _ _ _ r h => by simp [impl_Net_parts.l1] at h, fun _ _ _ _ _ _ _ r h => by simp [impl_Net_parts.l2] at h⟩
 | k + 1 => by
  obtain ⟨ih0, ih1, ih2⟩ := impl_Net_parts.mono_l k; refine ⟨?_, ?_, ?_⟩
  ·intro a b c d e; unfold impl_Net_parts.l0; exact mo_
  ·intro a b c d; unfold impl_Net_parts.l1; exact mo_
  ·intro a b c d e f g; unfold impl_Net_parts.l2; exact mo_
theorem impl_Net_parts.mono : ∀ a b k, LeO (impl_Net_parts.f k a b) (impl_Net_parts.f (k + 1) a b) := by
 intro a b k; obtain ⟨ih0, ih1, ih2⟩ := impl_Net_parts.mono_l k; unfold impl_Net_parts.f; exact mo_
def impl_Net_parts.T13 : Bool × List (List Nat × List Nat) := (true, [([], []), ([], []), ([1], [1]), ([0, 2], [0, 2]), ([3], [3]), ([], []), ([], []), ([6], [6]), ([5, 7], [5, 7]), ([8], [8]), ([4, 9], [4, 9]), ([10, 0, 1, 2, 3, 4, 5, 6, 7, 8, 9, 10], [10])])
def impl_Net_parts.B13 : List Nat := [0, 0, 2, 7, 15, 0, 0, 64, 224, 480, 1023, 2047]
theorem impl_Net_parts.tab13 : rtab .any (opsOf Try.f83 13) = impl_Net_parts.T13 := by kernel_rfl
theorem impl_Net_parts.bits13 : waitsOk impl_Net_parts.T13.2 impl_Net_parts.B13 = true := by kernel_rfl
def impl_Net_parts.T14 : Bool × List (List Nat × List Nat) := (true, [([], []), ([], []), ([1], [1]), ([0, 2], [0, 2]), ([3], [3]), ([], []), ([], []), ([6], [6]), ([5, 7], [5, 7]), ([8], [8]), ([4, 9], [4, 9])])
def impl_Net_parts.B14 : List Nat := [0, 0, 2, 7, 15, 0, 0, 64, 224, 480, 1023]
theorem impl_Net_parts.tab14 : rtab .any (opsOf Try.f83 14) = impl_Net_parts.T14 := by kernel_rfl
theorem impl_Net_parts.bits14 : waitsOk impl_Net_parts.T14.2 impl_Net_parts.B14 = true := by kernel_rfl
def impl_Net_parts.T15 : Bool × List (List Nat × List Nat) := (true, [([], []), ([], []), ([1], [1]), ([], []), ([], []), ([4], [4]), ([], []), ([], []), ([0, 2, 0, 1, 2, 6], [0, 2]), ([8, 6, 0, 1, 2, 6], [6, 8]), ([3, 5, 0, 1, 2, 3, 4, 5, 6, 7, 8, 9], [3, 5]), ([10, 7, 9, 0, 1, 2, 3, 4, 5, 6, 7, 8, 9], [7, 10])])
def impl_Net_parts.B15 : List Nat := [0, 0, 2, 0, 0, 16, 0, 0, 71, 327, 1023, 2047]
theorem impl_Net_parts.tab15 : rtab .any (opsOf Try.f83 15) = impl_Net_parts.T15 := by kernel_rfl
theorem impl_Net_parts.bits15 : waitsOk impl_Net_parts.T15.2 impl_Net_parts.B15 = true := by kernel_rfl
set_option maxHeartbeats 8000000 in
set_option maxRecDepth 100000 in
theorem impl_Net_parts.calls (k : Nat) (p : Int) (Y : Option Addr) (Z : Nat) (a : List (S35)) (r : List Int) (w : World) (aX : Kd.C k35 w Y a.length a) (aY : a.length ≤ Z) (h : impl_Net_parts.f k p a = some r) :
  Calls Try.prog 83 #[.agg #[.int .i64 p, .slice Y a.length Z]] w fun e w' => ∃ aZ : Value, e = .returned (aZ) ∧ Kd.R (Kd.int .i64) 3 w' w.heap.size (fun _ => True) aZ r ∧ Below w.heap.size w w' := by
 have bQ := Try.underlying25; have bR := Try.underlying35; have a0 := am aX; have bS := am aY; clear aX aY; have HB := am (Below.refl w.heap.size w)
 have H : (impl_Net_parts.l0 k (([] : List Int)) p 0 p a) = some r := h
 clear h; obtain ⟨a1, an⟩ : ∃ y_ : List Int, y_ = (([] : List Int)) := ⟨_, rfl⟩; replace H : (impl_Net_parts.l0 k a1 p 0 p a) = some r := nh_ an H; have a2 := am an; clear an; have H' := am H; clear H; go_enter Try.func83, Try.ntmps83
 go_wp2_with (first | ((with_reducible refine gate_dst (N := 1) rfl ?_); refine bx_ 1 #[.int .i64 p, .slice Y a.length Z] 25 HB ?_; clear HB; intro ap hg w2 hb j bi HB; clear hb hg) | ((with_reducible refine gate_dst (N := 9) rfl ?_); refine Kd.R_lit (Kd.int .i64) _ 3 ?hg (N := 9) ?hd (xs := ([] : List Int)) (inner := []) (ok := fun _ => True) (okp := fun _ => True) ?hr ?hp (fun _ hk => hk) trivial (Below.refl _ _) (Nat.le_refl _) (by simp) ?_; (case hd => rfl); (case hg => rfl); (case hr => first | (go_simp; done) | (go_simp; rfl)); (case hp => exact (Reps.none _ _)); intro bT w3 ag hb bj bk; clear bj bk; (first | rw [← a2.out] at ag | (simp only [Int.reduceToNat] at ag; rw [← a2.out] at ag)); have bl := am (Kd.R_lower ag (below_size (bn HB))); replace j := bb j hb; replace HB := bs HB hb; clear hb ag; have aq := c2 j))
 go_loopg [3, 12] k (fun kq v3 bo w' => ∃ (aa : List Int) (s : Int), bo = .int .i64 s ∧ Aside0 (impl_Net_parts.l0 kq aa p s p a = some r) ∧ Aside0 (kq ≤ k) ∧ Aside0 (Kd.R (Kd.int .i64) 3 w' w.heap.size (fun _ => True) v3 aa) ∧ Bk w' ap (.cells #[.int .i64 p, (.slice Y a.length Z)] 25 (0, 0)) ∧ Aside0 (Below w.heap.size w w'))
 case atStart => exact ⟨(a1), (0), rs_, H', ⟨Nat.le_refl _⟩, ⟨onR bl⟩, ⟨bkn j⟩, ⟨bn HB⟩⟩
 case round =>
  clear H'; (try clear aq); obtain ⟨aa, s, rfl, HA, t, g, j, HB⟩ := hrel; cases gk with
  | zero => exact absurd HA.out (by simp [impl_Net_parts.l0])
  | succ k1 =>
   have H := HA.out; clear HA; simp only [impl_Net_parts.l0] at H; by_cases u : s < p
   ·rw [if_pos u] at H; have ar := decide_eq_true u; clear u; obtain ⟨c7, H⟩ := ig_ H; have bp := am c7; clear c7; obtain ⟨a3, au⟩ : ∃ y_ : List Int, y_ = (aa ++ [s]) := ⟨_, rfl⟩; replace H : (impl_Net_parts.l0 k1 a3 p (wrap64 (s + 1)) p a) = some r := nh_ au H; have br := am au; clear au; have H' := am H; clear H
    go_wp2_with (first | ((with_reducible refine gate_builtin (b := .append) (xs := #[.tmp 15, .tmp 17]) rfl ?_); at_builtin; refine Kd.R_append (Kd.int .i64) (w0 := w) w.heap.size rfl (.tmp 15) (.tmp 17) 36 3 (.int .i64 0) 8 rfl Try.underlying36 info3 rfl (by decide) (by omega) u3 aa s [.int .i64 s] (fun _ => True) (fun _ => False) rfl rfl ?aP (fun _ hk => hk.elim) ?aF ?aO ?aB ?aS ?aL ?_; (case aP => exact rfl); (case aB => exact (bn HB)); (case aF => exact (fun _ _ => trivial)); (case aO => exact (onR g)); (case aS => exact (below_size (bn HB))); (case aL => have := bp.out; omega); intro bU w8 ho hb hg bu; rw [← br.out] at ho; replace j := bm (blk_grown (bkn j) hg (Kd.R_ne g.out j.out (by decide))); replace HB := am hb; have bv := am ho; clear g; clear ho hb hg bu))
    go_roundg k1
    case measure => have := t.out; omega
    case rel => exact ⟨(a3), (wrap64 (s + 1)), rs_, H', ⟨by have := t.out; omega⟩, ⟨onR bv⟩, ⟨bkn j⟩, ⟨bn HB⟩⟩
   ·rw [if_neg u] at H; have ar := decide_eq_false u; clear u; have H' := am H; clear H; go_wp2
    go_loopg [5] k1 (fun kq v5 w' => ∃ (ak : List Int) (al : Bool), v5 = .bool al ∧ Aside0 (impl_Net_parts.l1 kq ak al p a = some r) ∧ Aside0 (kq ≤ k1) ∧ Aside0 (Kd.R (Kd.int .i64) 3 w' w.heap.size (fun _ => True) u3 ak) ∧ Bk w' ap (.cells #[.int .i64 p, (.slice Y a.length Z)] 25 (0, 0)) ∧ Aside0 (Below w.heap.size w w'))
    case atStart => exact ⟨(aa), (true), rs_, H', ⟨Nat.le_refl _⟩, ⟨onR g⟩, ⟨bkn j⟩, ⟨bn HB⟩⟩
    case round =>
     clear H'; (try clear u ar c7 aq); obtain ⟨ak, al, rfl, HA, ab, g, j, HB⟩ := hrel; cases gk with
     | zero => exact absurd HA.out (by simp [impl_Net_parts.l1])
     | succ k2 =>
      have H := HA.out; clear HA; simp only [impl_Net_parts.l1] at H; by_cases c9 : al = true
      ·subst c9; rw [if_pos rfl] at H; have H' := am H; clear H; have bw := c2 j; go_wp2
       go_loopg [5, 24] k2 (fun kq v5 bx w' => ∃ (l : List Int) (ad : Bool) (c : Int), v5 = .bool ad ∧ bx = .int .i64 c ∧ Aside0 (impl_Net_parts.l2 kq l ad a (a.length : Int) c p a = some r) ∧ Aside0 (kq ≤ k2) ∧ Aside0 (Kd.R (Kd.int .i64) 3 w' w.heap.size (fun _ => True) u3 l) ∧ Bk w' ap (.cells #[.int .i64 p, (.slice Y a.length Z)] 25 (0, 0)) ∧ Aside0 (Below w.heap.size w w'))
       case atStart => exact ⟨(ak), (false), (0), rs_, rs_, H', ⟨Nat.le_refl _⟩, ⟨onR g⟩, ⟨bkn j⟩, ⟨bn HB⟩⟩
       case round =>
        clear H'; (try clear u ar c7 c9 bw aq); obtain ⟨l, ad, c, rfl, rfl, HA, ae, g, j, HB⟩ := hrel; cases gk with
        | zero => exact absurd HA.out (by simp [impl_Net_parts.l2])
        | succ k3 =>
         have H := HA.out; clear HA; simp only [impl_Net_parts.l2] at H; by_cases af : c < (a.length : Int)
         ·rw [if_pos af] at H; have bz := decide_eq_true af; clear af; obtain ⟨bV, H⟩ := id_ H; obtain ⟨bW, H⟩ := id_ H; obtain ⟨bX, H⟩ := id_ H; obtain ⟨bY, H⟩ := id_ H; obtain ⟨bZ, H⟩ := id_ H; obtain ⟨b0, H⟩ := id_ H; obtain ⟨x, av⟩ : ∃ j_ : Int, (mn (rd l ((rd_T35 a c).f0)) (rd l ((rd_T35 a c).f1))) = j_ := ⟨_, rfl⟩; replace H : (if (rd l ((rd_T35 a c).f0)) = (rd l ((rd_T35 a c).f1)) then (impl_Net_parts.l2 k3 l ad a (a.length : Int) (wrap64 (c + 1)) p a) else (impl_Net_parts.l2 k3 ((l.set (((rd_T35 a c).f0) : Int).toNat (x)).set (((rd_T35 a c).f1) : Int).toNat (x)) true a (a.length : Int) (wrap64 (c + 1)) p a)) = some r := by first | (rw [av] at H; exact H) | (simp only [av] at H ⊢; exact H)
          have b1 : (if (rd l ((rd_T35 a c).f1)) < (rd l ((rd_T35 a c).f0)) then (rd l ((rd_T35 a c).f1)) else (rd l ((rd_T35 a c).f0))) = x := av; by_cases y : (rd l ((rd_T35 a c).f0)) = (rd l ((rd_T35 a c).f1))
          ·rw [if_pos y] at H; have bA : ((rd l ((rd_T35 a c).f0)) == (rd l ((rd_T35 a c).f1))) = true := beq_iff_eq.mpr y; have bB : ((rd l ((rd_T35 a c).f0)) != (rd l ((rd_T35 a c).f1))) = false := bne_eq_false_iff_eq.mpr y; clear y; have H' := am H; clear H; have z : 0 ≤ (c : Int) := oa; have A : c < (a.length : Int) := oa; obtain ⟨bC, aw, ah, ai⟩ := at_T35 a0.out c z A; cases aw; replace ah := hc_ HB ah; replace ai := hc_ HB ai; obtain ⟨z, A⟩ := e2_ z A
           try go_wp2_with (first | ((with_reducible refine gate_dst (N := 7) rfl ?_); refine bx_ 7 #[.int .i64 0, .int .i64 0] 35 HB ?_; clear HB; intro aj hg bD hb m a4 HB; replace g := am (Kd.R_below (onR g) hb); obtain ⟨ax, ay⟩ := nb_ hg j; replace j := bb j hb; clear hb hg; have b2 := n2 ay ax; have b3 := c2 m))
           obtain ⟨a5, q⟩ := nw_ ((bD.setCell ⟨aj, 0, none⟩ (.int .i64 ((rd_T35 a c).f0))).setCell ⟨aj, 1, none⟩ (.int .i64 ((rd_T35 a c).f1))); replace g : Aside0 (Kd.R (Kd.int .i64) 3 a5 w.heap.size (fun _ => True) u3 l) := (by rw [q]; exact ⟨Kd.R_mono (onR g) (fun _ hk => trivial)⟩); replace g := dR g; replace j := tD q j; replace m := tD q m; replace HB := tM q HB; rw [← q]; clear q; obtain ⟨b4, b5, a6⟩ := Kd.R_slice g.out; (first | subst a6 | (injection a6 with f1_ f2_ f3_; have az := f1_.symm; have aA := f3_.symm; clear f1_ f2_ f3_; subst az; subst aA)); have B : 0 ≤ (((rd_T35 a c).f0) : Int) := oa; have D : ((rd_T35 a c).f0) < (l.length : Int) := oa; obtain ⟨E, aC, G⟩ := Kd.at_int (Kd.R_reads' g.out).2.2 ((rd_T35 a c).f0) B D; cases aC; obtain ⟨B, D⟩ := e2_ B D; have I : 0 ≤ (((rd_T35 a c).f1) : Int) := oa; have J : ((rd_T35 a c).f1) < (l.length : Int) := oa; obtain ⟨aD, aE, L⟩ := Kd.at_int (Kd.R_reads' g.out).2.2 ((rd_T35 a c).f1) I J; obtain rfl : E = aD := (by injection aE); obtain ⟨I, J⟩ := e2_ I J; refine s4_ 12 [] (bq m 0) (bq m 1) G L (fun n => ?_); refine with_tabW impl_Net_parts.tab13 impl_Net_parts.bits13 (fun d o => ?_); generalize a5.drew = bE at g j m HB G L n ⊢; refine pz_ 0 d ?_; refine pz_ 1 d ?_; refine pz_ 5 d ?_; refine pz_ 6 d ?_; refine tz_ 2 d o n ?_; refine pz_ 3 d ?_; refine tz_ 4 d o n ?_; refine tz_ 7 d o n ?_; refine pz_ 8 d ?_; refine tz_ 9 d o n ?_; refine pz_ 10 d ?_; refine pz_ 11 d ?_; refine done_ (done_of d.out (by kernel_rfl)) ?_; try go_wp2
           replace g := dR g; replace j := dB j; replace m := dB m; replace HB := dL HB; have M : 0 ≤ (((rd_T35 a c).f0) : Int) := oa; have O : ((rd_T35 a c).f0) < (l.length : Int) := oa; obtain ⟨aG, aH, P⟩ := Kd.at_int (Kd.R_reads' g.out).2.2 ((rd_T35 a c).f0) M O; obtain rfl : E = aG := (by injection aH); obtain ⟨M, O⟩ := e2_ M O; have T : 0 ≤ (((rd_T35 a c).f1) : Int) := oa; have U : ((rd_T35 a c).f1) < (l.length : Int) := oa; obtain ⟨aI, aJ, W⟩ := Kd.at_int (Kd.R_reads' g.out).2.2 ((rd_T35 a c).f1) T U; obtain rfl : E = aI := (by injection aJ); obtain ⟨T, U⟩ := e2_ T U; refine s4_ 11 [] (bq m 0) (bq m 1) P W (fun n => ?_); refine with_tabW impl_Net_parts.tab14 impl_Net_parts.bits14 (fun d o => ?_); generalize bE.drew = w26 at g j m HB P W n ⊢; refine pz_ 0 d ?_; refine pz_ 1 d ?_; refine pz_ 5 d ?_; refine pz_ 6 d ?_; refine tz_ 2 d o n ?_; refine pz_ 3 d ?_; refine tz_ 4 d o n ?_; refine tz_ 7 d o n ?_; refine pz_ 8 d ?_; refine tz_ 9 d o n ?_; refine pz_ 10 d ?_; refine done_ (done_of d.out (by kernel_rfl)) ?_; try go_wp2
           go_roundg k3
           case measure => have := t.out; have := ab.out; have := ae.out; omega
           case rel => exact ⟨(l), (ad), (wrap64 (c + 1)), rs_, rs_, H', ⟨by have := t.out; have := ab.out; have := ae.out; omega⟩, ⟨onR g⟩, ⟨bkn j⟩, ⟨bn HB⟩⟩
          ·rw [if_neg y] at H; have bA : ((rd l ((rd_T35 a c).f0)) == (rd l ((rd_T35 a c).f1))) = false := beq_eq_false_iff_ne.mpr y; have bB : ((rd l ((rd_T35 a c).f0)) != (rd l ((rd_T35 a c).f1))) = true := bne_iff_ne.mpr y; obtain ⟨a7, aK⟩ : ∃ y_ : List Int, y_ = (l.set (((rd_T35 a c).f0) : Int).toNat (x)) := ⟨_, rfl⟩; replace H : (impl_Net_parts.l2 k3 (a7.set (((rd_T35 a c).f1) : Int).toNat (x)) true a (a.length : Int) (wrap64 (c + 1)) p a) = some r := nh_ aK H; have bF := am aK; clear aK; obtain ⟨a8, aM⟩ : ∃ y_ : List Int, y_ = (a7.set (((rd_T35 a c).f1) : Int).toNat (x)) := ⟨_, rfl⟩; replace H : (impl_Net_parts.l2 k3 a8 true a (a.length : Int) (wrap64 (c + 1)) p a) = some r := nh_ aM H; have bG := am aM; clear aM; have H' := am H; clear H; have z : 0 ≤ (c : Int) := oa; have A : c < (a.length : Int) := oa; obtain ⟨bC, aw, ah, ai⟩ := at_T35 a0.out c z A; cases aw; replace ah := hc_ HB ah; replace ai := hc_ HB ai; obtain ⟨z, A⟩ := e2_ z A
           try go_wp2_with (first | ((with_reducible refine gate_dst (N := 7) rfl ?_); refine bx_ 7 #[.int .i64 0, .int .i64 0] 35 HB ?_; clear HB; intro aj hg bH hb m a4 HB; replace g := am (Kd.R_below (onR g) hb); obtain ⟨ax, ay⟩ := nb_ hg j; replace j := bb j hb; clear hb hg; have b6 := n2 ay ax; have b7 := c2 m))
           obtain ⟨a9, q⟩ := nw_ ((bH.setCell ⟨aj, 0, none⟩ (.int .i64 ((rd_T35 a c).f0))).setCell ⟨aj, 1, none⟩ (.int .i64 ((rd_T35 a c).f1))); replace g : Aside0 (Kd.R (Kd.int .i64) 3 a9 w.heap.size (fun _ => True) u3 l) := (by rw [q]; exact ⟨Kd.R_mono (onR g) (fun _ hk => trivial)⟩); replace g := dR g; replace j := tD q j; replace m := tD q m; replace HB := tM q HB; rw [← q]; clear q; obtain ⟨b8, b9, ba⟩ := Kd.R_slice g.out; (first | subst ba | (injection ba with f1_ f2_ f3_; have az := f1_.symm; have aA := f3_.symm; clear f1_ f2_ f3_; subst az; subst aA)); have B : 0 ≤ (((rd_T35 a c).f0) : Int) := oa; have D : ((rd_T35 a c).f0) < (l.length : Int) := oa; obtain ⟨E, aC, G⟩ := Kd.at_int (Kd.R_reads' g.out).2.2 ((rd_T35 a c).f0) B D; cases aC; obtain ⟨B, D⟩ := e2_ B D; have I : 0 ≤ (((rd_T35 a c).f1) : Int) := oa; have J : ((rd_T35 a c).f1) < (l.length : Int) := oa; obtain ⟨aD, aE, L⟩ := Kd.at_int (Kd.R_reads' g.out).2.2 ((rd_T35 a c).f1) I J; obtain rfl : E = aD := (by injection aE); obtain ⟨I, J⟩ := e2_ I J; refine s4_ 12 [] (bq m 0) (bq m 1) G L (fun n => ?_); refine with_tabW impl_Net_parts.tab13 impl_Net_parts.bits13 (fun d o => ?_); generalize a9.drew = bI at g j m HB G L n ⊢; refine pz_ 0 d ?_; refine pz_ 1 d ?_; refine pz_ 5 d ?_; refine pz_ 6 d ?_; refine tz_ 2 d o n ?_; refine pz_ 3 d ?_; refine tz_ 4 d o n ?_; refine tz_ 7 d o n ?_; refine pz_ 8 d ?_; refine tz_ 9 d o n ?_; refine pz_ 10 d ?_; refine pz_ 11 d ?_; refine done_ (done_of d.out (by kernel_rfl)) ?_; try go_wp2
           replace g := dR g; replace j := dB j; replace m := dB m; replace HB := dL HB; have M : 0 ≤ (((rd_T35 a c).f0) : Int) := oa; have O : ((rd_T35 a c).f0) < (l.length : Int) := oa; obtain ⟨aG, aH, P⟩ := Kd.at_int (Kd.R_reads' g.out).2.2 ((rd_T35 a c).f0) M O; obtain rfl : E = aG := (by injection aH); obtain ⟨M, O⟩ := e2_ M O; have T : 0 ≤ (((rd_T35 a c).f1) : Int) := oa; have U : ((rd_T35 a c).f1) < (l.length : Int) := oa; obtain ⟨aI, aJ, W⟩ := Kd.at_int (Kd.R_reads' g.out).2.2 ((rd_T35 a c).f1) T U; obtain rfl : E = aI := (by injection aJ); obtain ⟨T, U⟩ := e2_ T U; refine s4_ 11 [] (bq m 0) (bq m 1) P W (fun n => ?_); refine with_tabW impl_Net_parts.tab14 impl_Net_parts.bits14 (fun d o => ?_); generalize bI.drew = bJ at g j m HB P W n ⊢; refine pz_ 0 d ?_; refine pz_ 1 d ?_; refine pz_ 5 d ?_; refine pz_ 6 d ?_; refine tz_ 2 d o n ?_; refine pz_ 3 d ?_; refine tz_ 4 d o n ?_; refine tz_ 7 d o n ?_; refine pz_ 8 d ?_; refine tz_ 9 d o n ?_; refine pz_ 10 d ?_; refine done_ (done_of d.out (by kernel_rfl)) ?_; try go_wp2
           replace g := dR g; replace j := dB j; replace m := dB m; replace HB := dL HB; have aN : 0 ≤ (((rd_T35 a c).f0) : Int) := oa; have aQ : (((rd_T35 a c).f0) : Int) < ((l.length : Int) : Int) := oa; obtain ⟨ca, cc, bd, be, bK, cd, bf⟩ := Kd.R_form g.out (by omega); (first | cases bd | (injection bd with ea_ en_ ec_; (first | subst ea_ | (injection ea_ with ea_; subst ea_)); subst ec_; clear en_)); have bg := am be; have bL := am bf; clear be bK bf; (first | simp only [add_plain] at G | skip); (first | simp only [add_plain] at L | skip); (first | simp only [add_plain] at P | skip); (first | simp only [add_plain] at W | skip); obtain ⟨bM, bN⟩ := Kd.R_celln 0 g.out (((rd_T35 a c).f0) : Int) aN aQ; obtain ⟨aN, aQ⟩ := e2_ aN aQ; have aR := Kd.R_putn g.out (((rd_T35 a c).f0) : Int) x; rw [← bF.out] at aR; have aT := am aR; clear aR; have aU : 0 ≤ (((rd_T35 a c).f1) : Int) := oa; have aV : (((rd_T35 a c).f1) : Int) < ((l.length : Int) : Int) := oa; obtain ⟨bO, bP⟩ := Kd.R_celln 0 aT.out (((rd_T35 a c).f1) : Int) aU aV; obtain ⟨aU, aV⟩ := e2_ aU aV; have aW := Kd.R_putn aT.out (((rd_T35 a c).f1) : Int) x; rw [← bG.out] at aW; have bh := am aW; clear aW; refine s2_ 12 [11] (bq m 0) (bq m 1) (fun n => ?_); refine with_tabW impl_Net_parts.tab15 impl_Net_parts.bits15 (fun d o => ?_); generalize bJ.drew = w36 at g j m HB bL aT bh bN bP bM G L P W bO n ⊢; refine pz_ 0 d ?_; refine pz_ 1 d ?_; refine pz_ 3 d ?_; refine pz_ 4 d ?_; refine pz_ 6 d ?_; refine pz_ 7 d ?_; refine tz_ 2 d o n ?_; refine pz_ 8 d ?_; refine tz_ 5 d o n ?_; refine on_ 9 d (fun K hK => ?_); refine skip_ (w1 := ?_) (by rfl) rfl ?_ ?_
           rotate_left
           ·go_simp
            rfl
           refine hK.out _ _ ⟨((cell_far (by have X := Kd.R_ne g.out m.out (by decide); intro q; exact X ((congrArg some q).trans rfl)) _).trans (n.1)), ((cell_far (by have X := Kd.R_ne g.out m.out (by decide); intro q; exact X ((congrArg some q).trans rfl)) _).trans (n.2))⟩ (fun n => ?_); clear hK K; refine pz_ 10 d ?_; refine last_ (i := 11) (N := none) #[true, true, true, true, true, true, true, true, true, true, true, true] rfl rfl (one_of d.out (by kernel_rfl)) (by decide) (fun K hK => ?_); refine skip_ (w1 := ?_) (by rfl) rfl ?_ ?_
           rotate_left
           ·go_simp
            rfl
           refine hK.out _ _ ?_; clear hK K; refine done_ (done_of d.out (by kernel_rfl)) ?_; try go_wp2
           go_roundg k3
           case measure => have := t.out; have := ab.out; have := ae.out; omega
           case rel => exact ⟨(a8), (true), (wrap64 (c + 1)), rs_, rs_, H', ⟨by have := t.out; have := ab.out; have := ae.out; omega⟩, ⟨bh.out⟩, ⟨by (with_reducible repeat (first | refine blk_drewN ?_ _ | refine blk_drew ?_ | refine blk_alloc ?_ _)); refine blk_far ?_ (by have X := Kd.R_ne g.out j.out (by decide); intro q; exact X (by rw [q]; rfl)) _; (with_reducible repeat (first | refine blk_drewN ?_ _ | refine blk_drew ?_ | refine blk_alloc ?_ _)); refine blk_far ?_ (by have X := Kd.R_ne g.out j.out (by decide); intro q; exact X (by rw [q]; rfl)) _; (with_reducible repeat (first | refine blk_drewN ?_ _ | refine blk_drew ?_ | refine blk_alloc ?_ _)); exact j.out⟩, ⟨by repeat (first | (with_reducible first | exact HB.out | apply below_alloc | apply pw_below_drewN | apply below_drew1 | refine below_set ?_ bg.out | refine below_set ?_ bg.out | refine below_set ?_ bi.out | refine below_set ?_ a4.out) | exact HB.out)⟩⟩
         ·rw [if_neg af] at H; have bz := decide_eq_false af; clear af; have H' := am H; clear H; go_wp2
          go_roundg k3
          case measure => have := t.out; have := ab.out; have := ae.out; omega
          case rel => exact ⟨(l), (ad), rs_, H', ⟨by have := t.out; have := ab.out; have := ae.out; omega⟩, ⟨onR g⟩, ⟨bkn j⟩, ⟨bn HB⟩⟩
      ·obtain rfl := nt_ c9; rw [if_neg nf_] at H; obtain rfl := Option.some.inj H; go_wp2
       go_ret
       exact ⟨_, er_, onR g, bn HB⟩

/-! ### impl_Net_joined: function 60 -/
def impl_Net_joined.f (k : Nat) (a0_0 : Int) (l0_1 : List (S35)) (a1 : Int) (a2 : Int) : Option (Bool) := (impl_Net_parts.f k a0_0 l0_1).bind fun t291 => (if 0 ≤ a1 then (if a1 < (t291.length : Int) then (if 0 ≤ a2 then (if a2 < (t291.length : Int) then (some ((rd t291 a1) == (rd t291 a2))) else (none)) else (none)) else (none)) else (none))
theorem impl_Net_joined.mono : ∀ a b c d k, LeO (impl_Net_joined.f k a b c d) (impl_Net_joined.f (k + 1) a b c d) := by
 intro a b c d k; unfold impl_Net_joined.f; have m0_ := @impl_Net_parts.mono; exact mo_
set_option maxHeartbeats 8000000 in
set_option maxRecDepth 100000 in
theorem impl_Net_joined.calls (k : Nat) (o : Int) (q : Option Addr) (s : Nat) (d : List (S35)) (a : Int) (b : Int) (r : Bool) (w : World) (E : Kd.C k35 w q d.length d) (G : d.length ≤ s) (h : impl_Net_joined.f k o d a b = some r) :
  Calls Try.prog 60 #[.agg #[.int .i64 o, .slice q d.length s], .int .i64 a, .int .i64 b] w fun e w' => e = .returned (.bool r) ∧ Below w.heap.size w w' := by
 have X := Try.underlying25; have A := am E; have B := am G; clear E G; have HB := am (Below.refl w.heap.size w)
 have H : ((impl_Net_parts.f k o d).bind fun c => (if 0 ≤ a then (if a < (c.length : Int) then (if 0 ≤ b then (if b < (c.length : Int) then (some ((rd c a) == (rd c b))) else (none)) else (none)) else (none)) else (none))) = some r := h
 clear h; obtain ⟨c, D, H⟩ := bi_ H; obtain ⟨Y, H⟩ := id_ H; obtain ⟨Z, H⟩ := id_ H; obtain ⟨aa, H⟩ := id_ H; obtain ⟨ab, H⟩ := id_ H; obtain rfl := Option.some.inj H; go_enter Try.func60, Try.ntmps60
 go_wp2_with (first | ((with_reducible refine gate_dst (N := 3) rfl ?_); refine bx_ 3 #[.int .i64 o, .slice q d.length s] 25 HB ?_; clear HB; intro I hg J hb g K HB; clear hb hg; have L := c2 g) | (go_at_call 83; (with_reducible refine (impl_Net_parts.calls k o _ _ d c _ ?z_1 ?z_2 D.out).mono ?_); (case z_1 => exact cb A HB); (case z_2 => exact B.out); rintro e M ⟨O, rfl, p, hb⟩; have i := am (Kd.R_lower p (below_size (bn HB))); replace g := bb g hb; replace HB := bs HB hb; (try clear hb p); obtain ⟨P, T, t⟩ := Kd.R_slice i.out; subst t; have j : 0 ≤ (a : Int) := oa; have l : a < (c.length : Int) := oa; obtain ⟨u, x, U⟩ := Kd.at_int (Kd.R_reads' i.out).2.2 a j l; cases x; replace j := eq_true j; replace l := eq_true l; have m : 0 ≤ (b : Int) := oa; have n : b < (c.length : Int) := oa; obtain ⟨y, z, W⟩ := Kd.at_int (Kd.R_reads' i.out).2.2 b m n; obtain rfl : u = y := (by injection z); replace m := eq_true m; replace n := eq_true n))
 repeat (go_quiet (first | ((with_reducible refine gate_dst (N := 3) rfl ?_); refine bx_ 3 #[.int .i64 o, .slice q d.length s] 25 HB ?_; clear HB; intro I hg J hb g K HB; clear hb hg; have L := c2 g) | (go_at_call 83; (with_reducible refine (impl_Net_parts.calls k o _ _ d c _ ?z_1 ?z_2 D.out).mono ?_); (case z_1 => exact cb A HB); (case z_2 => exact B.out); rintro e M ⟨O, rfl, p, hb⟩; have i := am (Kd.R_lower p (below_size (bn HB))); replace g := bb g hb; replace HB := bs HB hb; (try clear hb p); obtain ⟨P, T, t⟩ := Kd.R_slice i.out; subst t; have j : 0 ≤ (a : Int) := oa; have l : a < (c.length : Int) := oa; obtain ⟨u, x, U⟩ := Kd.at_int (Kd.R_reads' i.out).2.2 a j l; cases x; replace j := eq_true j; replace l := eq_true l; have m : 0 ≤ (b : Int) := oa; have n : b < (c.length : Int) := oa; obtain ⟨y, z, W⟩ := Kd.at_int (Kd.R_reads' i.out).2.2 b m n; obtain rfl : u = y := (by injection z); replace m := eq_true m; replace n := eq_true n)); try go_wp2_with (first | ((with_reducible refine gate_dst (N := 3) rfl ?_); refine bx_ 3 #[.int .i64 o, .slice q d.length s] 25 HB ?_; clear HB; intro I hg J hb g K HB; clear hb hg; have L := c2 g) | (go_at_call 83; (with_reducible refine (impl_Net_parts.calls k o _ _ d c _ ?z_1 ?z_2 D.out).mono ?_); (case z_1 => exact cb A HB); (case z_2 => exact B.out); rintro e M ⟨O, rfl, p, hb⟩; have i := am (Kd.R_lower p (below_size (bn HB))); replace g := bb g hb; replace HB := bs HB hb; (try clear hb p); obtain ⟨P, T, t⟩ := Kd.R_slice i.out; subst t; have j : 0 ≤ (a : Int) := oa; have l : a < (c.length : Int) := oa; obtain ⟨u, x, U⟩ := Kd.at_int (Kd.R_reads' i.out).2.2 a j l; cases x; replace j := eq_true j; replace l := eq_true l; have m : 0 ≤ (b : Int) := oa; have n : b < (c.length : Int) := oa; obtain ⟨y, z, W⟩ := Kd.at_int (Kd.R_reads' i.out).2.2 b m n; obtain rfl : u = y := (by injection z); replace m := eq_true m; replace n := eq_true n)))
 go_ret
 exact ⟨er_, bn HB⟩

/-! ### laws_loTies: function 11 -/
def laws_loTies.l0 : Nat → List (S35) → List (S35) → Int → Option (Bool)
 | 0, _, _, _ => none
 | k + 1, x0, x1, x5 => if x5 < (x0.length : Int) then (if 0 ≤ x5 then (if x5 < (x1.length : Int) then (if (!(((rd_T35 x0 x5).f0) == ((rd_T35 x1 x5).f0)) || (!(((rd_T35 x0 x5).f1) == ((rd_T35 x1 x5).f1)))) = true then (some false) else (laws_loTies.l0 k x0 x1 (wrap64 (x5 + 1)))) else (none)) else (none)) else (some true)
def laws_loTies.f (k : Nat) (l0 : List (S35)) (l1 : List (S35)) : Option (Bool) := if (l0.length : Int) = (l1.length : Int) then (laws_loTies.l0 k l0 l1 0) else (some false)
theorem laws_loTies.mono_l : ∀ k, (∀ a b c, LeO (laws_loTies.l0 k a b c) (laws_loTies.l0 (k + 1) a b c))
 | 0 => fun _ _ _ r h => by simp [laws_loTies.l0] at h
 | k + 1 => by
  have ih0 := laws_loTies.mono_l k
  ·intro a b c; unfold laws_loTies.l0; exact mo_
theorem laws_loTies.mono : ∀ a b k, LeO (laws_loTies.f k a b) (laws_loTies.f (k + 1) a b) := by
 intro a b k; have ih0 := laws_loTies.mono_l k; unfold laws_loTies.f; exact mo_
set_option maxHeartbeats 8000000 in
set_option maxRecDepth 100000 in
theorem laws_loTies.calls (k : Nat) (q : Option Addr) (s : Nat) (l0 : List (S35)) (t : Option Addr) (n : Nat) (b : List (S35)) (r : Bool) (w : World) (u : Kd.C k35 w q l0.length l0) (x : l0.length ≤ s) (y : Kd.C k35 w t b.length b) (z : b.length ≤ n) (h : laws_loTies.f k l0 b = some r) :
  Calls Try.prog 11 #[.slice q l0.length s, .slice t b.length n] w fun e w' => e = .returned (.bool r) ∧ Drawn0 w w' := by
 have X := Try.underlying35; have A := am u; have HC0 := am x; clear u x; have B := am y; have HC1 := am z; clear y z
 have H : (if (l0.length : Int) = (b.length : Int) then (laws_loTies.l0 k l0 b 0) else (some false)) = some r := h
 clear h; by_cases c : (l0.length : Int) = (b.length : Int)
 ·rw [if_pos c] at H; have D : ((l0.length : Int) == (b.length : Int)) = true := beq_iff_eq.mpr c; have E : ((l0.length : Int) != (b.length : Int)) = false := bne_eq_false_iff_eq.mpr c; have G : (l0.length == b.length) = true := by first | simpa using c | (simp at c ⊢; omega)
  clear c; have H' := am H; clear H; go_enter Try.func11, Try.ntmps11; go_wp2
  repeat (go_quiet (fail); try go_wp2)
  go_loopg [5] k (fun kq J w' => ∃ (a : Int), J = .int .i64 a ∧ Aside0 (laws_loTies.l0 kq l0 b a = some r) ∧ Aside0 (kq ≤ k) ∧ Drawn0 w w')
  case atStart => exact ⟨(0), rs_, H', ⟨Nat.le_refl _⟩, by repeat (first | exact Drawn0.refl _ | apply Drawn0.step)⟩
  case round =>
   clear H'; (try clear n c D E G); obtain ⟨a, rfl, HA, I, ⟨m1, rfl⟩⟩ := hrel; cases gk with
   | zero => exact absurd HA.out (by simp [laws_loTies.l0])
   | succ k1 =>
    have H := HA.out; clear HA; simp only [laws_loTies.l0] at H; by_cases l : a < (l0.length : Int)
    ·rw [if_pos l] at H; have K := decide_eq_true l; clear l; obtain ⟨Y, H⟩ := id_ H; obtain ⟨Z, H⟩ := id_ H; by_cases m : (!(((rd_T35 l0 a).f0) == ((rd_T35 b a).f0)) || (!(((rd_T35 l0 a).f1) == ((rd_T35 b a).f1)))) = true
     ·rw [if_pos m] at H; have L : (!(((rd_T35 l0 a).f0) == ((rd_T35 b a).f0)) || (!(((rd_T35 l0 a).f1) == ((rd_T35 b a).f1)))) = true := m; clear m; obtain rfl := Option.some.inj H; have d : 0 ≤ (a : Int) := oa; have g : a < (l0.length : Int) := oa; obtain ⟨M, o, O, P⟩ := at_T35 A.out a d g; cases o; obtain ⟨d, g⟩ := e2_ d g; have i : 0 ≤ (a : Int) := oa; have j : a < (b.length : Int) := oa; obtain ⟨T, p, U, W⟩ := at_T35 B.out a i j; cases p; obtain ⟨i, j⟩ := e2_ i j; go_wp2
      repeat (go_quiet (fail); try go_wp2)
      go_ret
      exact ⟨rs_, by repeat (first | exact Drawn0.refl _ | apply Drawn0.step)⟩
     ·rw [if_neg m] at H; have L : (!(((rd_T35 l0 a).f0) == ((rd_T35 b a).f0)) || (!(((rd_T35 l0 a).f1) == ((rd_T35 b a).f1)))) = false := by simpa using m
      clear m; have H' := am H; clear H; have d : 0 ≤ (a : Int) := oa; have g : a < (l0.length : Int) := oa; obtain ⟨M, o, O, P⟩ := at_T35 A.out a d g; cases o; obtain ⟨d, g⟩ := e2_ d g; have i : 0 ≤ (a : Int) := oa; have j : a < (b.length : Int) := oa; obtain ⟨T, p, U, W⟩ := at_T35 B.out a i j; cases p; obtain ⟨i, j⟩ := e2_ i j; go_wp2
      repeat (go_quiet (fail); try go_wp2)
      go_roundg k1
      case measure => have := I.out; omega
      case rel => exact ⟨(wrap64 (a + 1)), rs_, H', ⟨by have := I.out; omega⟩, by repeat (first | exact Drawn0.refl _ | apply Drawn0.step)⟩
    ·rw [if_neg l] at H; have K := decide_eq_false l; clear l; obtain rfl := Option.some.inj H; go_wp2
     repeat (go_quiet (fail); try go_wp2)
     go_ret
     exact ⟨rs_, by repeat (first | exact Drawn0.refl _ | apply Drawn0.step)⟩
 ·rw [if_neg c] at H; have D : ((l0.length : Int) == (b.length : Int)) = false := beq_eq_false_iff_ne.mpr c; have E : ((l0.length : Int) != (b.length : Int)) = true := bne_iff_ne.mpr c; have G : (l0.length == b.length) = false := by first | simpa using c | (simp at c ⊢; omega)
  obtain rfl := Option.some.inj H; go_enter Try.func11, Try.ntmps11; go_wp2
  repeat (go_quiet (fail); try go_wp2)
  go_ret
  exact ⟨rs_, by repeat (first | exact Drawn0.refl _ | apply Drawn0.step)⟩

end Go.Proofs.Ytiamiahkjdipkaa.F
