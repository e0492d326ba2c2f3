-- By oprint.py.
import Derived.Test.YtikmhohgjmandaaF0
import Derived.Test.YtikmhohgjmandaaF1
import Derived.Test.YtikmhohgjmandaaF14
import Derived.Test.YtikmhohgjmandaaF4
namespace Go.Proofs.Ytikmhohgjmandaa.F
open Go.RowKit Go.Proofs.YtikmhohgjmandaaW.PrintWords Go.Proofs.YtikmhohgjmandaaW.PrintLast Go.Proofs.YtikmhohgjmandaaW.PrintMore
attribute [local go_sem] max2_int min2_int max_two min_two max_three min_three max_four min_four
set_option linter.unusedVariables false
set_option linter.unusedSimpArgs false

attribute [local go_sem high] eqA45
/-! ### impl_Net_less: function 37 -/
def impl_Net_less.l0 : Nat → List (S45) → List (S45) → Int → Int → Int → List (S45) → Option (Int × (List (S45)))
 | 0, _, _, _, _, _, _ => none
 | k + 1, x1, x13, x14, x15, x453000, x453001 => if x15 < x14 then (if 0 ≤ x15 then (if x15 < (x13.length : Int) then ((slices_Contains_impl_Tie_impl_Tie.f k x1 ((rd_T45 x13 x15).f0) ((rd_T45 x13 x15).f1)).bind fun t455 => (if t455 = true then (impl_Net_less.l0 k x1 x13 x14 (wrap64 (x15 + 1)) x453000 x453001) else (if x453001.length < 8796093022208 then (impl_Net_less.l0 k x1 x13 x14 (wrap64 (x15 + 1)) x453000 (x453001 ++ [(⟨(rd_T45 x13 x15).f0, (rd_T45 x13 x15).f1⟩ : S45)])) else (none)))) else (none)) else (none)) else (some (x453000, x453001))
def impl_Net_less.f (k : Nat) (a0_0 : Int) (l0_1 : List (S45)) (l1 : List (S45)) : Option (Int × (List (S45))) := impl_Net_less.l0 k l1 l0_1 (l0_1.length : Int) 0 a0_0 (([] : List (S45)))
theorem impl_Net_less.mono_l : ∀ k, (∀ a b c d e f, LeO (impl_Net_less.l0 k a b c d e f) (impl_Net_less.l0 (k + 1) a b c d e f))
 | 0 => fun _ _ _ _ _ _ r h => by simp [impl_Net_less.l0] at h
 | k + 1 => by
  have ih0 := impl_Net_less.mono_l k
  ·intro a b c d e f; unfold impl_Net_less.l0; have m0_ := @slices_Contains_impl_Tie_impl_Tie.mono; exact mo_
theorem impl_Net_less.mono : ∀ a b c k, LeO (impl_Net_less.f k a b c) (impl_Net_less.f (k + 1) a b c) := by
 intro a b c k; have ih0 := impl_Net_less.mono_l k; unfold impl_Net_less.f; have m0_ := @slices_Contains_impl_Tie_impl_Tie.mono; exact mo_
set_option maxHeartbeats 8000000 in
set_option maxRecDepth 100000 in
theorem impl_Net_less.calls (k : Nat) (n : Int) (D : Option Addr) (E : Nat) (a : List (S45)) (G : Option Addr) (y : Nat) (m : List (S45)) (s : Int) (t : List (S45)) (w : World) (af : Kd.C k45 w D a.length a) (ag : a.length ≤ E) (ah : Kd.C k45 w G m.length m) (ai : m.length ≤ y) (h : impl_Net_less.f k n a m = some (s, t)) :
  Calls Try.prog 37 #[.agg #[.int .i64 n, .slice D a.length E], .slice G m.length y] w fun e w' => ∃ aj : Value, e = .returned (.agg #[.int .i64 s, aj]) ∧ Kd.R k45 45 w' w.heap.size (fun _ => True) aj t ∧ Below w.heap.size w w' := by
 have a4 := Try.underlying25; have a5 := Try.underlying45; have ak := am af; have a6 := am ag; clear af ag; have al := am ah; have an := am ai; clear ah ai; have HB := am (Below.refl w.heap.size w)
 have H : (impl_Net_less.l0 k m a (a.length : Int) 0 n (([] : List (S45)))) = some (s, t) := h
 clear h; obtain ⟨K, L⟩ : ∃ y_ : List (S45), y_ = (([] : List (S45))) := ⟨_, rfl⟩; replace H : (impl_Net_less.l0 k m a (a.length : Int) 0 n K) = some (s, t) := nh_ L H; have ap := am L; clear L; have H' := am H; clear H; go_enter Try.func37, Try.ntmps37
 go_wp2_with (first | ((with_reducible refine gate_dst (N := 2) rfl ?_); refine bx_ 2 #[.int .i64 n, .slice D a.length E] 25 HB ?_; clear HB; intro aA hg w3 hb d a7 HB; clear hb hg) | ((with_reducible refine gate_dst (N := 4) rfl ?_); refine bx_ 4 #[.int .i64 0, .slice none 0 0] 25 HB ?_; clear HB; intro aq hg w4 hb g a8 HB; obtain ⟨ar, au⟩ := nb_ hg d; replace d := bb d hb; clear hb hg; have a9 := n2 ar au; have aC := c2 d) | ((with_reducible refine gate_dst (N := 10) rfl ?_); refine Kd.R_lit k45 _ 45 ?hg (N := 10) ?hd (xs := ([] : List (S45))) (inner := []) (ok := fun _ => True) (okp := fun _ => True) ?hr ?hp (fun _ hk => hk) trivial (Below.refl _ _) (Nat.le_refl _) (by simp) ?_; (case hd => rfl); (case hg => rfl); (case hr => first | (go_simp; done) | (go_simp; rfl)); (case hp => exact (Reps.none _ _)); intro ba w7 z hb aD aE; clear aD aE; (first | rw [← ap.out] at z | (simp only [Int.reduceToNat] at z; rw [← ap.out] at z)); have I := am (Kd.R_lower z (below_size (bn HB))); replace d := bb d hb; replace g := bb g hb; replace HB := bs HB hb; clear hb z; obtain ⟨aG, aH, aI⟩ := Kd.R_slice I.out; subst aI) | ((with_reducible refine gate_dst (N := 5) rfl ?_); refine bx_ 5 #[.int .i64 0, .slice none 0 0] 25 HB ?_; clear HB; intro aJ hg w10 hb i bd HB; replace I := am (Kd.R_below (onR I) hb); obtain ⟨M, O⟩ := nb_ hg d; replace d := bb d hb; obtain ⟨P, T⟩ := nb_ hg g; replace g := bb g hb; clear hb hg; have be := n2 O M; have bf := n2 T P; have aK := c2 i; have aM := c2 d))
 go_loopg [15] k (fun kq aN w' => ∃ (c : Int) (o : List (S45)) (u453001 : Value), aN = .int .i64 c ∧ Aside0 (impl_Net_less.l0 kq m a (a.length : Int) c n o = some (s, t)) ∧ Aside0 (kq ≤ k) ∧ Aside0 (Kd.R k45 45 w' w.heap.size (fun _ => True) u453001 o) ∧ Bk w' aA (.cells #[.int .i64 n, (.slice D a.length E)] 25 (0, 0)) ∧ Bk w' aq (.cells #[.int .i64 0, (.slice none 0 0)] 25 (0, 0)) ∧ Bk w' aJ (.cells #[.int .i64 n, u453001] 25 (0, 0)) ∧ Aside0 (Below w.heap.size w w'))
 case atStart => exact ⟨(0), (K), (.slice aG K.length aH), rs_, H', ⟨Nat.le_refl _⟩, ⟨Kd.R_mono (onR I) (fun _ hk => trivial)⟩, ⟨bkn d⟩, ⟨bkn g⟩, ⟨by (with_reducible repeat (first | refine blk_drewN ?_ _ | refine blk_drew ?_ | refine blk_alloc ?_ _)); refine blk_put (cs := #[.int .i64 n, .slice none 0 0]) ?_ 1 _ rfl; (with_reducible repeat (first | refine blk_drewN ?_ _ | refine blk_drew ?_ | refine blk_alloc ?_ _)); refine blk_put (cs := #[.int .i64 0, .slice none 0 0]) ?_ 0 _ rfl; (with_reducible repeat (first | refine blk_drewN ?_ _ | refine blk_drew ?_ | refine blk_alloc ?_ _)); exact i.out⟩, ⟨bn HB⟩⟩
 case round =>
  clear H'; (try clear y aK aM aC); obtain ⟨c, o, u453001, rfl, HA, J, j, d, g, i, HB⟩ := hrel; cases gk with
  | zero => exact absurd HA.out (by simp [impl_Net_less.l0])
  | succ k1 =>
   have H := HA.out; clear HA; simp only [impl_Net_less.l0] at H; by_cases u : c < (a.length : Int)
   ·rw [if_pos u] at H; have aQ := decide_eq_true u; clear u; obtain ⟨bg, H⟩ := id_ H; obtain ⟨bh, H⟩ := id_ H; obtain ⟨aR, av, H⟩ := bi_ H; by_cases aw : aR = true
    ·subst aw; rw [if_pos rfl] at H; have H' := am H; clear H; have p : 0 ≤ (c : Int) := oa; have q : c < (a.length : Int) := oa; obtain ⟨aT, U, A, B⟩ := at_T45 ak.out c p q; cases U; replace A := hc_ HB A; replace B := hc_ HB B; obtain ⟨p, q⟩ := e2_ p q
     go_wp2_with (first | ((with_reducible refine gate_dst (N := 7) rfl ?_); refine bx_ 7 #[.int .i64 0, .int .i64 0] 45 HB ?_; clear HB; intro x hg w20 hb l aU HB; replace j := am (Kd.R_below (Kd.R_elderB (onR j) x (Nat.le_of_eq hg.symm)) hb); obtain ⟨W, X⟩ := nb_ hg d; replace d := bb d hb; obtain ⟨Y, Z⟩ := nb_ hg g; replace g := bb g hb; obtain ⟨aa, ab⟩ := nb_ hg i; replace i := bb i hb; clear hb hg; have bi := n2 X W; have bj := n2 Z Y; have bk := n2 ab aa; have bl := c2 l) | ((with_reducible refine gate_callee (f := 61) rfl ?_); refine gl_ (some 21) Try.func61 #[.slice G m.length y, .agg #[.int .i64 ((rd_T45 a c).f0), .int .i64 ((rd_T45 a c).f1)]] ?_; (with_reducible refine (slices_Contains_impl_Tie_impl_Tie.calls k1 _ _ m ((rd_T45 a c).f0) ((rd_T45 a c).f1) true _ ?z_1 ?z_2 av.out).mono ?_); (case z_1 => exact Kd.C_below al.out (bn HB)); (case z_2 => exact an.out); rintro e w25 ⟨rfl, hb⟩; refine ⟨_, rfl, ?_⟩; replace j := am (Kd.R_below (onR j) hb); replace d := bb d hb; replace g := bb g hb; replace i := bb i hb; replace l := bb l hb; replace HB := bs HB hb; (try clear hb)))
     go_roundg k1
     case measure => have := J.out; omega
     case rel => exact ⟨(wrap64 (c + 1)), (o), (u453001), rs_, H', ⟨by have := J.out; omega⟩, ⟨Kd.R_mono (onR j) (fun _ hk => trivial)⟩, ⟨bkn d⟩, ⟨bkn g⟩, ⟨bkn i⟩, ⟨bn HB⟩⟩
    ·obtain rfl := nt_ aw; rw [if_neg nf_] at H; obtain ⟨ax, H⟩ := ig_ H; have aV := am ax; clear ax; obtain ⟨ad, ae⟩ : ∃ y_ : List (S45), y_ = (o ++ [(⟨(rd_T45 a c).f0, (rd_T45 a c).f1⟩ : S45)]) := ⟨_, rfl⟩; replace H : (impl_Net_less.l0 k1 m a (a.length : Int) (wrap64 (c + 1)) n ad) = some (s, t) := nh_ ae H; have aW := am ae; clear ae; have H' := am H; clear H; have p : 0 ≤ (c : Int) := oa; have q : c < (a.length : Int) := oa; obtain ⟨aT, U, A, B⟩ := at_T45 ak.out c p q; cases U; replace A := hc_ HB A; replace B := hc_ HB B; obtain ⟨p, q⟩ := e2_ p q
     go_wp2_with (first | ((with_reducible refine gate_dst (N := 7) rfl ?_); refine bx_ 7 #[.int .i64 0, .int .i64 0] 45 HB ?_; clear HB; intro x hg w27 hb l aU HB; replace j := am (Kd.R_below (Kd.R_elderB (onR j) x (Nat.le_of_eq hg.symm)) hb); obtain ⟨W, X⟩ := nb_ hg d; replace d := bb d hb; obtain ⟨Y, Z⟩ := nb_ hg g; replace g := bb g hb; obtain ⟨aa, ab⟩ := nb_ hg i; replace i := bb i hb; clear hb hg; have bo := n2 X W; have bp := n2 Z Y; have br := n2 ab aa; have bu := c2 l) | ((with_reducible refine gate_callee (f := 61) rfl ?_); refine gl_ (some 21) Try.func61 #[.slice G m.length y, .agg #[.int .i64 ((rd_T45 a c).f0), .int .i64 ((rd_T45 a c).f1)]] ?_; (with_reducible refine (slices_Contains_impl_Tie_impl_Tie.calls k1 _ _ m ((rd_T45 a c).f0) ((rd_T45 a c).f1) false _ ?z_1 ?z_2 av.out).mono ?_); (case z_1 => exact Kd.C_below al.out (bn HB)); (case z_2 => exact an.out); rintro e ay ⟨rfl, hb⟩; refine ⟨_, rfl, ?_⟩; replace j := am (Kd.R_below (onR j) hb); replace d := bb d hb; replace g := bb g hb; replace i := bb i hb; replace l := bb l hb; replace HB := bs HB hb; (try clear hb); have bv := n2 O M; have bw := n2 T P; have bx := c2 i; have bz : ay.cell? ⟨x, 0, none⟩ = some (.int .i64 ((rd_T45 a c).f0)) := (bc l 0); have bA : ay.cell? ⟨x, 1, none⟩ = some (.int .i64 ((rd_T45 a c).f1)) := (bc l 1); have bB := blk_frozen l.out 0; have bC := blk_frozen l.out 1) | ((with_reducible refine gate_builtin (b := .append) (xs := #[.tmp 24, .tmp 26]) rfl ?_); at_builtin; refine Kd.R_append k45 (w0 := w) w.heap.size rfl (.tmp 24) (.tmp 26) 23 45 (.agg #[(.int .i64 0), (.int .i64 0)]) 16 rfl Try.underlying23 info45 rfl (by decide) (by omega) u453001 o (⟨(rd_T45 a c).f0, (rd_T45 a c).f1⟩ : S45) [.int .i64 ((rd_T45 a c).f0), .int .i64 ((rd_T45 a c).f1)] (fun k_ => k_ ≠ x) (fun _ => False) rfl rfl ?aP (fun _ hk => hk.elim) ?aF ?aO ?aB ?aS ?aL ?_; (case aP => exact k45_mkM _ _ _ (⟨(rd_T45 a c).f0, (rd_T45 a c).f1⟩ : S45)); (case aB => exact (bn HB)); (case aF => exact (fun k_ hk => Kd.freshB (bkn l) k_ hk)); (case aO => exact (Kd.R_mono (onR j) (fun _ hk => hk.2))); (case aS => exact (below_size (bn HB))); (case aL => have := aV.out; omega); intro bD w37 ho hb hg aX; rw [← aW.out] at ho; replace d := bm (blk_grown (bkn d) hg (Kd.R_ne j.out d.out (by decide))); replace g := bm (blk_grown (bkn g) hg (Kd.R_ne j.out g.out (by decide))); replace i := bm (blk_grown (bkn i) hg (Kd.R_ne j.out i.out (by decide))); replace l := bm (blk_grown (bkn l) hg (Kd.R_away j.out (fun _ hk => hk.2))); replace HB := am hb; have az := am ho; clear j; clear ho hb hg aX; obtain ⟨aY, aZ, a0⟩ := Kd.R_slice az.out; subst a0; have bE := c2 i))
     go_roundg k1
     case measure => have := J.out; omega
     case rel => exact ⟨(wrap64 (c + 1)), (ad), (.slice aY ad.length aZ), rs_, H', ⟨by have := J.out; omega⟩, ⟨Kd.R_mono (onR az) (fun _ hk => trivial)⟩, ⟨bkn d⟩, ⟨bkn g⟩, ⟨by (with_reducible repeat (first | refine blk_drewN ?_ _ | refine blk_drew ?_ | refine blk_alloc ?_ _)); refine blk_put (cs := #[.int .i64 n, u453001]) ?_ 1 _ rfl; (with_reducible repeat (first | refine blk_drewN ?_ _ | refine blk_drew ?_ | refine blk_alloc ?_ _)); exact i.out⟩, ⟨bn HB⟩⟩
   ·rw [if_neg u] at H; have aQ := decide_eq_false u; clear u; simp only [Option.some.injEq, Prod.mk.injEq] at H; obtain ⟨rfl, rfl⟩ := H; have bF := n2 O M; have bG := n2 T P; have bH := c2 i; have bI := n2 au ar; have bJ := c2 g; obtain ⟨a1, a2, a3⟩ := Kd.R_slice j.out; subst a3; go_wp2; refine bodyPost_ret (results_cell_row rfl _ _ aq 25 #[.int .i64 n, .slice a1 o.length a2] (0, 0) _ rfl (bkn g) Try.underlying25 rfl (by kernel_rfl)) rfl ?_; exact ⟨_, er_, Kd.R_mono (onR j) (fun _ hk => trivial), bn HB⟩

/-! ### spec_NetCut: function 39 -/
def spec_NetCut.l0 : Nat → Int → Int → Int → Int → List (S45) → Int → List (S45) → Option (Int × (List (S45)) × Bool)
 | 0, _, _, _, _, _, _, _ => none
 | k + 1, x1, x2, x9, x481000, x481001, x484000, x484001 => if x9 < (x481001.length : Int) then (if 0 ≤ x9 then ((spec_l1Tie.f x1 x2).bind fun bt485 => (if (!(((rd_T45 x481001 x9).f0) == bt485.1) || (!(((rd_T45 x481001 x9).f1) == bt485.2))) = true then (if x484001.length < 8796093022208 then (spec_NetCut.l0 k x1 x2 (wrap64 (x9 + 1)) x481000 x481001 x484000 (x484001 ++ [(⟨(rd_T45 x481001 x9).f0, (rd_T45 x481001 x9).f1⟩ : S45)])) else (none)) else (spec_NetCut.l0 k x1 x2 (wrap64 (x9 + 1)) x481000 x481001 x484000 x484001))) else (none)) else (some (x484000, x484001, true))
def spec_NetCut.f (k : Nat) (a0_0 : Int) (l0_1 : List (S45)) (a1 : Int) (a2 : Int) : Option (Int × (List (S45)) × Bool) := (spec_NetHas.f k a0_0 l0_1 a1 a2).bind fun t482 => (if t482 = true then (spec_NetCut.l0 k a1 a2 0 a0_0 l0_1 a0_0 ([] : List (S45))) else (some (0, ([] : List (S45)), false)))
theorem spec_NetCut.mono_l : ∀ k, (∀ a b c d e f g, LeO (spec_NetCut.l0 k a b c d e f g) (spec_NetCut.l0 (k + 1) a b c d e f g))
 | 0 => fun _ _ _ _ _ _ _ r h => by simp [spec_NetCut.l0] at h
 | k + 1 => by
  have ih0 := spec_NetCut.mono_l k
  ·intro a b c d e f g; unfold spec_NetCut.l0; have m0_ := @spec_NetHas.mono; exact mo_
theorem spec_NetCut.mono : ∀ a b c d k, LeO (spec_NetCut.f k a b c d) (spec_NetCut.f (k + 1) a b c d) := by
 intro a b c d k; have ih0 := spec_NetCut.mono_l k; unfold spec_NetCut.f; have m0_ := @spec_NetHas.mono; exact mo_
def spec_NetCut.T7 : Bool × List (List Nat × List Nat) := (true, [([], []), ([0], [0]), ([], []), ([1, 2], [1, 2]), ([3], [3]), ([], []), ([], []), ([5, 6], [5, 6]), ([4, 7], [4, 7])])
def spec_NetCut.B7 : List Nat := [0, 1, 0, 7, 15, 0, 0, 96, 255]
theorem spec_NetCut.tab7 : rtab .any (opsOf Try.f39 7) = spec_NetCut.T7 := by kernel_rfl
theorem spec_NetCut.bits7 : waitsOk spec_NetCut.T7.2 spec_NetCut.B7 = true := by kernel_rfl
def spec_NetCut.T8 : Bool × List (List Nat × List Nat) := (true, [([], []), ([0], [0]), ([], []), ([2], [2]), ([], []), ([3, 4], [3, 4]), ([5], [5]), ([6], [6]), ([1, 7], [1, 7]), ([0, 1, 2, 3, 4, 5, 6, 7, 8], []), ([9, 8, 8, 0, 1, 2, 3, 4, 5, 6, 7, 8], [8, 9])])
def spec_NetCut.B8 : List Nat := [0, 1, 0, 4, 0, 28, 60, 124, 255, 511, 1023]
theorem spec_NetCut.tab8 : rtab .any (opsOf Try.f39 8) = spec_NetCut.T8 := by kernel_rfl
theorem spec_NetCut.bits8 : waitsOk spec_NetCut.T8.2 spec_NetCut.B8 = true := by kernel_rfl
set_option maxHeartbeats 8000000 in
set_option maxRecDepth 100000 in
theorem spec_NetCut.calls (k : Nat) (m : Int) (u : Option Addr) (x : Nat) (b : List (S45)) (o : Int) (p : Int) (I : Int) (J : List (S45)) (L : Bool) (w : World) (ap : Kd.C k45 w u b.length b) (aq : b.length ≤ x) (h : spec_NetCut.f k m b o p = some (I, J, L)) :
  Calls Try.prog 39 #[.agg #[.int .i64 m, .slice u b.length x], .int .i64 o, .int .i64 p] w fun e w' => ∃ ar : Value, e = .returned (.tuple #[.agg #[.int .i64 I, ar], .bool L]) ∧ Kd.R k45 45 w' w.heap.size (fun _ => True) ar J ∧ Below w.heap.size w w' := by
 have a7 := Try.underlying25; have a8 := Try.underlying45; have M := am ap; have au := am aq; clear ap aq; have HB := am (Below.refl w.heap.size w)
 have H : ((spec_NetHas.f k m b o p).bind fun af => (if af = true then (spec_NetCut.l0 k o p 0 m b m ([] : List (S45))) else (some (0, ([] : List (S45)), false)))) = some (I, J, L) := h
 clear h; obtain ⟨af, A4, H⟩ := bi_ H; by_cases c5 : af = true
 ·subst c5; rw [if_pos rfl] at H; have H' := am H; clear H; go_enter Try.func39, Try.ntmps39
  go_wp2_with (first | ((with_reducible refine gate_dst (N := 3) rfl ?_); refine bx_ 3 #[.int .i64 m, .slice u b.length x] 25 HB ?_; clear HB; intro av hg w6 hb a aI HB; clear hb hg) | ((with_reducible refine gate_dst (N := 6) rfl ?_); refine bx_ 6 #[.int .i64 0, .slice none 0 0] 25 HB ?_; clear HB; intro Y hg w7 hb d aJ HB; obtain ⟨B, D⟩ := nb_ hg a; replace a := bb a hb; clear hb hg; have a9 := n2 B D; have aK := c2 a) | ((with_reducible refine gate_callee (f := 62) rfl ?_); refine gl_ (some 13) Try.func62 #[.agg #[.int .i64 m, .slice u b.length x], .int .i64 o, .int .i64 p] ?_; (with_reducible refine (spec_NetHas.calls k m _ _ b o p true _ ?z_1 ?z_2 A4.out).mono ?_); (case z_1 => exact cb M HB); (case z_2 => exact au.out); rintro e w10 ⟨rfl, hb⟩; refine ⟨_, rfl, ?_⟩; replace a := bb a hb; replace d := bb d hb; replace HB := bs HB hb; (try clear hb); have aM := c2 a) | ((with_reducible refine gate_dst (N := 8) rfl ?_); refine bx_ 8 #[.int .i64 0, .slice none 0 0] 25 HB ?_; clear HB; intro aN hg w12 hb g ba HB; obtain ⟨O, P⟩ := nb_ hg a; replace a := bb a hb; obtain ⟨ag, ah⟩ := nb_ hg d; replace d := bb d hb; clear hb hg; have bd := n2 P O; have be := n2 ah ag; have aQ := c2 g))
  go_loopg [9] k (fun kq v9 w' => ∃ (j : Int) (y : List (S45)) (u484001 : Value), v9 = .int .i64 j ∧ Aside0 (spec_NetCut.l0 kq o p j m b m y = some (I, J, L)) ∧ Aside0 (kq ≤ k) ∧ Aside0 (Kd.R k45 45 w' w.heap.size (fun _ => True) u484001 y) ∧ Bk w' av (.cells #[.int .i64 m, (.slice u b.length x)] 25 (0, 0)) ∧ Bk w' Y (.cells #[.int .i64 0, (.slice none 0 0)] 25 (0, 0)) ∧ Bk w' aN (.cells #[.int .i64 m, u484001] 25 (0, 0)) ∧ Aside0 (Below w.heap.size w w'))
  case atStart => exact ⟨(0), (([] : List (S45))), (.slice none 0 0), rs_, H', ⟨Nat.le_refl _⟩, ⟨by first | exact Kd.R_nil _ _ _ _ _ | exact Kd.N_nil _ _ _ _ _ | exact Kd.V_nil _ _ _ _ _ | exact Kd.Q_nil _ _ _ _ _ | exact Kd.S_nil _ _ _ _ _⟩, ⟨bkn a⟩, ⟨bkn d⟩, ⟨by (with_reducible repeat (first | refine blk_drewN ?_ _ | refine blk_drew ?_ | refine blk_alloc ?_ _)); refine blk_put (cs := #[.int .i64 m, .slice none 0 0]) ?_ 1 _ rfl; (with_reducible repeat (first | refine blk_drewN ?_ _ | refine blk_drew ?_ | refine blk_alloc ?_ _)); refine blk_put (cs := #[.int .i64 0, .slice none 0 0]) ?_ 0 _ rfl; (with_reducible repeat (first | refine blk_drewN ?_ _ | refine blk_drew ?_ | refine blk_alloc ?_ _)); exact g.out⟩, ⟨bn HB⟩⟩
  case round =>
   clear H'; (try clear c5 aM aQ aK); obtain ⟨j, y, u484001, rfl, HA, Z, l, a, d, g, HB⟩ := hrel; cases gk with
   | zero => exact absurd HA.out (by simp [spec_NetCut.l0])
   | succ k1 =>
    have H := HA.out; clear HA; simp only [spec_NetCut.l0] at H; by_cases E : j < (b.length : Int)
    ·rw [if_pos E] at H; have aR := decide_eq_true E; clear E; obtain ⟨bf, H⟩ := id_ H; obtain ⟨⟨T, U⟩, aw, H⟩ := bi_ H; (try dsimp only at H); by_cases G : (!(((rd_T45 b j).f0) == T) || (!(((rd_T45 b j).f1) == U))) = true
     ·rw [if_pos G] at H; have aT : (!(((rd_T45 b j).f0) == T) || (!(((rd_T45 b j).f1) == U))) = true := G; clear G; obtain ⟨ax, H⟩ := ig_ H; have aU := am ax; clear ax; obtain ⟨ai, aj⟩ : ∃ y_ : List (S45), y_ = (y ++ [(⟨(rd_T45 b j).f0, (rd_T45 b j).f1⟩ : S45)]) := ⟨_, rfl⟩; replace H : (spec_NetCut.l0 k1 o p (wrap64 (j + 1)) m b m ai) = some (I, J, L) := nh_ aj H; have aV := am aj; clear aj; have H' := am H; clear H; have bg := n2 B D; have bh := n2 O P; have bi := c2 a; try go_wp2
      replace l := dR l; replace a := dB a; replace d := dB d; replace g := dB g; replace HB := dL HB; have z : 0 ≤ (j : Int) := oa; have A : j < (b.length : Int) := oa; obtain ⟨ay, ak, q, s⟩ := at_T45 M.out j z A; have W := s; have X := q; cases ak; replace q := hc_ HB q; replace s := hc_ HB s; obtain ⟨z, A⟩ := e2_ z A; refine s4_ 9 [] (bq a 0) (bq a 1) (hb_ HB X) (hb_ HB W) (fun n => ?_); refine with_tabW spec_NetCut.tab7 spec_NetCut.bits7 (fun c t => ?_); generalize wr.drew = w24 at l a d g HB q s n ⊢; refine pz_ 0 c ?_; refine pz_ 2 c ?_; refine pz_ 5 c ?_; refine pz_ 6 c ?_; refine tz_ 1 c t n ?_; refine pz_ 3 c ?_; refine tz_ 4 c t n ?_; refine on_ 7 c (fun K hK => ?_); refine gg_ Try.func60 #[.int .i64 o, .int .i64 p] ?_
      with_reducible refine (spec_l1Tie.calls o p T U _ aw.out).mono ?_
      rintro e aW ⟨rfl, hb⟩; refine ⟨_, rfl, ?_⟩; replace l := am (Kd.R_below (onR l) hb); replace a := bb a hb; replace d := bb d hb; replace g := bb g hb; replace HB := bs HB hb; (try clear hb); refine hK.out _ _ ⟨(bc a 0), (bc a 1), (hb_ HB X), (hb_ HB W)⟩ (fun n => ?_); clear hK K; refine nz_ 33 ?_; refine pz_ 8 c ?_; refine done_ (done_of c.out (by kernel_rfl)) ?_; try go_wp2
      replace l := dR l; replace a := dB a; replace d := dB d; replace g := dB g; replace HB := dL HB; have al : 0 ≤ (j : Int) := oa; have an : j < (b.length : Int) := oa; obtain ⟨aX, aY, aa, ab⟩ := at_T45 M.out j al an; have ad := ab; have ae := aa; obtain rfl : ay = aX := (by injection aY); replace aa := hc_ HB aa; replace ab := hc_ HB ab; obtain ⟨al, an⟩ := e2_ al an; refine s6_ 11 [10] (bq g 0) (bq g 1) (bq a 0) (bq a 1) (hb_ HB ae) (hb_ HB ad) (fun n => ?_); refine with_tabW spec_NetCut.tab8 spec_NetCut.bits8 (fun c t => ?_); generalize aW.drew = w26 at l a d g HB aa ab n ⊢; refine pz_ 0 c ?_; refine pz_ 2 c ?_; refine pz_ 4 c ?_; refine tz_ 1 c t n ?_; refine tz_ 3 c t n ?_; refine pz_ 5 c ?_; refine tz_ 6 c t n ?_; refine on_ 7 c (fun K hK => ?_); refine value_ (w1 := ?_) (v := ?_) (by rfl) rfl ?_ ?_
      rotate_left 2
      ·go_simp
       constructor
       ·rfl
       ·rfl
      refine hK.out _ _ ⟨(blk_cell (blk_alloc g.out _) 0).trans rfl, (blk_cell (blk_alloc g.out _) 1).trans rfl, (blk_cell (blk_alloc a.out _) 0).trans rfl, (blk_cell (blk_alloc a.out _) 1).trans rfl, (World.cell?_alloc_lt _ _ _ (World.block_lt_of_cell? _ _ ((hb_ HB ae)))).trans ((hb_ HB ae)), (World.cell?_alloc_lt _ _ _ (World.block_lt_of_cell? _ _ ((hb_ HB ad)))).trans ((hb_ HB ad))⟩ (fun n => ?_); clear hK K; refine nz_ 42 ?_; refine on_ 8 c (fun K hK => ?_); refine Kd.R_append_step k45 (w0 := w) w.heap.size (by rfl) (.tmp 36) (.tmp 42) 23 45 (.agg #[(.int .i64 0), (.int .i64 0)]) 16 rfl Try.underlying23 info45 rfl (by decide) (by omega) u484001 y (⟨(rd_T45 b j).f0, (rd_T45 b j).f1⟩ : S45) [.int .i64 ((rd_T45 b j).f0), .int .i64 ((rd_T45 b j).f1)] (fun _ => True) (fun _ => False) rfl rfl ?aP (fun _ hk => hk.elim) ?aF ?aO ?aB ?aS ?aL ?_; (case aP => exact k45_mkM _ _ _ (⟨(rd_T45 b j).f0, (rd_T45 b j).f1⟩ : S45)); (case aB => exact (bn HB)); (case aF => exact (fun _ _ => trivial)); (case aO => exact (onR l)); (case aS => exact (below_size (bn HB))); (case aL => have := aU.out; omega); intro bj w27 ho hb hg aZ; rw [← aV.out] at ho; have az := bm (blk_grown (bkn a) hg (Kd.R_ne l.out a.out (by decide))); have aA := bm (blk_grown (bkn d) hg (Kd.R_ne l.out d.out (by decide))); have aC := bm (blk_grown (bkn g) hg (Kd.R_ne l.out g.out (by decide))); have aD := am hb; have aE := am ho; clear a d g HB l; have a := az; have d := aA; have g := aC; have HB := aD; have aG := aE; clear az aA aC aD aE ho hb hg aZ; obtain ⟨a0, a1, aH⟩ := Kd.R_slice aG.out; (first | subst aH | (injection aH with f1_ f2_ f3_; have a2 := f1_.symm; have a3 := f3_.symm; clear f1_ f2_ f3_; subst a2; subst a3)); refine hK.out _ _ ⟨(bc g 0), (bc g 1), (bc a 0), (bc a 1), (hb_ HB ae), (hb_ HB ad)⟩ (fun n => ?_); clear hK K; refine nz_ 43 ?_; refine pz_ 9 c ?_; refine last_ (i := 10) (N := none) #[true, true, true, true, true, true, true, true, true, true, true] rfl rfl (one_of c.out (by kernel_rfl)) (by decide) (fun K hK => ?_); have bk := bc g 1; have bl := blk_frozen g.out 1; have bo := O.out; have bp := ag.out; have br := P.out; have bu := ah.out; refine skip_ (w1 := ?_) (by rfl) rfl ?_ ?_
      rotate_left
      ·go_simp
       rfl
      refine hK.out _ _ ?_; clear hK K; refine done_ (done_of c.out (by kernel_rfl)) ?_; try go_wp2
      go_roundg k1
      case measure => have := Z.out; omega
      case rel => exact ⟨(wrap64 (j + 1)), (ai), (.slice a0 ai.length a1), rs_, H', ⟨by have := Z.out; omega⟩, ⟨Kd.R_mono (onR aG) (fun _ hk => trivial)⟩, ⟨bkn a⟩, ⟨bkn d⟩, ⟨by (with_reducible repeat (first | refine blk_drewN ?_ _ | refine blk_drew ?_ | refine blk_alloc ?_ _)); refine blk_put (cs := #[.int .i64 m, u484001]) ?_ 1 _ rfl; (with_reducible repeat (first | refine blk_drewN ?_ _ | refine blk_drew ?_ | refine blk_alloc ?_ _)); exact g.out⟩, ⟨bn HB⟩⟩
     ·rw [if_neg G] at H; have aT : (!(((rd_T45 b j).f0) == T) || (!(((rd_T45 b j).f1) == U))) = false := by simpa using G
      clear G; have H' := am H; clear H; have bv := n2 B D; have bw := n2 O P; have bx := c2 a; try go_wp2
      replace l := dR l; replace a := dB a; replace d := dB d; replace g := dB g; replace HB := dL HB; have z : 0 ≤ (j : Int) := oa; have A : j < (b.length : Int) := oa; obtain ⟨ay, ak, q, s⟩ := at_T45 M.out j z A; have W := s; have X := q; cases ak; replace q := hc_ HB q; replace s := hc_ HB s; obtain ⟨z, A⟩ := e2_ z A; refine s4_ 9 [] (bq a 0) (bq a 1) (hb_ HB X) (hb_ HB W) (fun n => ?_); refine with_tabW spec_NetCut.tab7 spec_NetCut.bits7 (fun c t => ?_); generalize wr.drew = w33 at l a d g HB q s n ⊢; refine pz_ 0 c ?_; refine pz_ 2 c ?_; refine pz_ 5 c ?_; refine pz_ 6 c ?_; refine tz_ 1 c t n ?_; refine pz_ 3 c ?_; refine tz_ 4 c t n ?_; refine on_ 7 c (fun K hK => ?_); refine gg_ Try.func60 #[.int .i64 o, .int .i64 p] ?_
      with_reducible refine (spec_l1Tie.calls o p T U _ aw.out).mono ?_
      rintro e w34 ⟨rfl, hb⟩; refine ⟨_, rfl, ?_⟩; replace l := am (Kd.R_below (onR l) hb); replace a := bb a hb; replace d := bb d hb; replace g := bb g hb; replace HB := bs HB hb; (try clear hb hk); refine hK.out _ _ ⟨(bc a 0), (bc a 1), (hb_ HB X), (hb_ HB W)⟩ (fun n => ?_); clear hK K; refine nz_ 33 ?_; refine pz_ 8 c ?_; refine done_ (done_of c.out (by kernel_rfl)) ?_; try go_wp2
      go_roundg k1
      case measure => have := Z.out; omega
      case rel => exact ⟨(wrap64 (j + 1)), (y), (u484001), rs_, H', ⟨by have := Z.out; omega⟩, ⟨onR l⟩, ⟨bkn a⟩, ⟨bkn d⟩, ⟨bkn g⟩, ⟨bn HB⟩⟩
    ·rw [if_neg E] at H; have aR := decide_eq_false E; clear E; simp only [Option.some.injEq, Prod.mk.injEq] at H; obtain ⟨rfl, rfl, rfl⟩ := H; have bz := n2 B D; have bA := n2 O P; have bB := c2 a; have bC := n2 ah ag; have bD := c2 g; have bE := c2 d; obtain ⟨a4, a5, a6⟩ := Kd.R_slice l.out; subst a6; go_wp2; refine bodyPost_ret (results_ct rfl _ _ Y 25 #[.int .i64 m, .slice a4 y.length a5] (0, 0) _ rfl (bkn d) Try.underlying25 rfl (by kernel_rfl)) rfl ?_; exact ⟨_, er_, Kd.R_mono (onR l) (fun _ hk => trivial), bn HB⟩
 ·obtain rfl := nt_ c5; rw [if_neg nf_] at H; simp only [Option.some.injEq, Prod.mk.injEq] at H; obtain ⟨rfl, rfl, rfl⟩ := H; go_enter Try.func39, Try.ntmps39
  go_wp2_with (first | ((with_reducible refine gate_dst (N := 3) rfl ?_); refine bx_ 3 #[.int .i64 m, .slice u b.length x] 25 HB ?_; clear HB; intro av hg w42 hb a aI HB; clear hb hg) | ((with_reducible refine gate_dst (N := 6) rfl ?_); refine bx_ 6 #[.int .i64 0, .slice none 0 0] 25 HB ?_; clear HB; intro Y hg w43 hb d aJ HB; obtain ⟨B, D⟩ := nb_ hg a; replace a := bb a hb; clear hb hg; have bF := n2 B D; have bG := c2 a) | ((with_reducible refine gate_callee (f := 62) rfl ?_); refine gl_ (some 13) Try.func62 #[.agg #[.int .i64 m, .slice u b.length x], .int .i64 o, .int .i64 p] ?_; (with_reducible refine (spec_NetHas.calls k m _ _ b o p false _ ?z_1 ?z_2 A4.out).mono ?_); (case z_1 => exact cb M HB); (case z_2 => exact au.out); rintro e w46 ⟨rfl, hb⟩; refine ⟨_, rfl, ?_⟩; replace a := bb a hb; replace d := bb d hb; replace HB := bs HB hb; (try clear hb); have bH := c2 d))
  refine bodyPost_ret (results_ct rfl _ _ Y 25 #[.int .i64 0, .slice none 0 0] (0, 0) _ rfl (bkn d) Try.underlying25 rfl (by kernel_rfl)) rfl ?_; exact ⟨_, er_, by first | exact Kd.R_nil _ _ _ _ _ | exact Kd.N_nil _ _ _ _ _ | exact Kd.V_nil _ _ _ _ _ | exact Kd.Q_nil _ _ _ _ _ | exact Kd.S_nil _ _ _ _ _, bn HB⟩

/-! ### laws_loTies: function 13 -/
def laws_loTies.l0 : Nat → List (S45) → List (S45) → Int → Option (Bool)
 | 0, _, _, _ => none
 | k + 1, x0, x1, x5 => if x5 < (x0.length : Int) then (if 0 ≤ x5 then (if x5 < (x1.length : Int) then (if (!(((rd_T45 x0 x5).f0) == ((rd_T45 x1 x5).f0)) || (!(((rd_T45 x0 x5).f1) == ((rd_T45 x1 x5).f1)))) = true then (some false) else (laws_loTies.l0 k x0 x1 (wrap64 (x5 + 1)))) else (none)) else (none)) else (some true)
def laws_loTies.f (k : Nat) (l0 : List (S45)) (l1 : List (S45)) : Option (Bool) := if (l0.length : Int) = (l1.length : Int) then (laws_loTies.l0 k l0 l1 0) else (some false)
theorem laws_loTies.mono_l : ∀ k, (∀ a b c, LeO (laws_loTies.l0 k a b c) (laws_loTies.l0 (k + 1) a b c))
 | 0 => fun _ _ _ r h => by simp [laws_loTies.l0] at h
 | k + 1 => by
  have ih0 := laws_loTies.mono_l k
  ·intro a b c; unfold laws_loTies.l0; exact mo_
theorem laws_loTies.mono : ∀ a b k, LeO (laws_loTies.f k a b) (laws_loTies.f (k + 1) a b) := by
 intro a b k; have ih0 := laws_loTies.mono_l k; unfold laws_loTies.f; exact mo_
set_option maxHeartbeats 8000000 in
set_option maxRecDepth 100000 in
theorem laws_loTies.calls (k : Nat) (q : Option Addr) (s : Nat) (l0 : List (S45)) (t : Option Addr) (n : Nat) (b : List (S45)) (r : Bool) (w : World) (u : Kd.C k45 w q l0.length l0) (x : l0.length ≤ s) (y : Kd.C k45 w t b.length b) (z : b.length ≤ n) (h : laws_loTies.f k l0 b = some r) :
  Calls Try.prog 13 #[.slice q l0.length s, .slice t b.length n] w fun e w' => e = .returned (.bool r) ∧ Drawn0 w w' := by
 have X := Try.underlying45; have A := am u; have HC0 := am x; clear u x; have B := am y; have HC1 := am z; clear y z
 have H : (if (l0.length : Int) = (b.length : Int) then (laws_loTies.l0 k l0 b 0) else (some false)) = some r := h
 clear h; by_cases c : (l0.length : Int) = (b.length : Int)
 ·rw [if_pos c] at H; have D : ((l0.length : Int) == (b.length : Int)) = true := beq_iff_eq.mpr c; have E : ((l0.length : Int) != (b.length : Int)) = false := bne_eq_false_iff_eq.mpr c; have G : (l0.length == b.length) = true := by first | simpa using c | (simp at c ⊢; omega)
  clear c; have H' := am H; clear H; go_enter Try.func13, Try.ntmps13; go_wp2
  repeat (go_quiet (fail); try go_wp2)
  go_loopg [5] k (fun kq J w' => ∃ (a : Int), J = .int .i64 a ∧ Aside0 (laws_loTies.l0 kq l0 b a = some r) ∧ Aside0 (kq ≤ k) ∧ Drawn0 w w')
  case atStart => exact ⟨(0), rs_, H', ⟨Nat.le_refl _⟩, by repeat (first | exact Drawn0.refl _ | apply Drawn0.step)⟩
  case round =>
   clear H'; (try clear n c D E G); obtain ⟨a, rfl, HA, I, ⟨m1, rfl⟩⟩ := hrel; cases gk with
   | zero => exact absurd HA.out (by simp [laws_loTies.l0])
   | succ k1 =>
    have H := HA.out; clear HA; simp only [laws_loTies.l0] at H; by_cases l : a < (l0.length : Int)
    ·rw [if_pos l] at H; have K := decide_eq_true l; clear l; obtain ⟨Y, H⟩ := id_ H; obtain ⟨Z, H⟩ := id_ H; by_cases m : (!(((rd_T45 l0 a).f0) == ((rd_T45 b a).f0)) || (!(((rd_T45 l0 a).f1) == ((rd_T45 b a).f1)))) = true
     ·rw [if_pos m] at H; have L : (!(((rd_T45 l0 a).f0) == ((rd_T45 b a).f0)) || (!(((rd_T45 l0 a).f1) == ((rd_T45 b a).f1)))) = true := m; clear m; obtain rfl := Option.some.inj H; have d : 0 ≤ (a : Int) := oa; have g : a < (l0.length : Int) := oa; obtain ⟨M, o, O, P⟩ := at_T45 A.out a d g; cases o; obtain ⟨d, g⟩ := e2_ d g; have i : 0 ≤ (a : Int) := oa; have j : a < (b.length : Int) := oa; obtain ⟨T, p, U, W⟩ := at_T45 B.out a i j; cases p; obtain ⟨i, j⟩ := e2_ i j; go_wp2
      repeat (go_quiet (fail); try go_wp2)
      go_ret
      exact ⟨rs_, by repeat (first | exact Drawn0.refl _ | apply Drawn0.step)⟩
     ·rw [if_neg m] at H; have L : (!(((rd_T45 l0 a).f0) == ((rd_T45 b a).f0)) || (!(((rd_T45 l0 a).f1) == ((rd_T45 b a).f1)))) = false := by simpa using m
      clear m; have H' := am H; clear H; have d : 0 ≤ (a : Int) := oa; have g : a < (l0.length : Int) := oa; obtain ⟨M, o, O, P⟩ := at_T45 A.out a d g; cases o; obtain ⟨d, g⟩ := e2_ d g; have i : 0 ≤ (a : Int) := oa; have j : a < (b.length : Int) := oa; obtain ⟨T, p, U, W⟩ := at_T45 B.out a i j; cases p; obtain ⟨i, j⟩ := e2_ i j; go_wp2
      repeat (go_quiet (fail); try go_wp2)
      go_roundg k1
      case measure => have := I.out; omega
      case rel => exact ⟨(wrap64 (a + 1)), rs_, H', ⟨by have := I.out; omega⟩, by repeat (first | exact Drawn0.refl _ | apply Drawn0.step)⟩
    ·rw [if_neg l] at H; have K := decide_eq_false l; clear l; obtain rfl := Option.some.inj H; go_wp2
     repeat (go_quiet (fail); try go_wp2)
     go_ret
     exact ⟨rs_, by repeat (first | exact Drawn0.refl _ | apply Drawn0.step)⟩
 ·rw [if_neg c] at H; have D : ((l0.length : Int) == (b.length : Int)) = false := beq_eq_false_iff_ne.mpr c; have E : ((l0.length : Int) != (b.length : Int)) = true := bne_iff_ne.mpr c; have G : (l0.length == b.length) = false := by first | simpa using c | (simp at c ⊢; omega)
  obtain rfl := Option.some.inj H; go_enter Try.func13, Try.ntmps13; go_wp2
  repeat (go_quiet (fail); try go_wp2)
  go_ret
  exact ⟨rs_, by repeat (first | exact Drawn0.refl _ | apply Drawn0.step)⟩

end Go.Proofs.Ytikmhohgjmandaa.F
