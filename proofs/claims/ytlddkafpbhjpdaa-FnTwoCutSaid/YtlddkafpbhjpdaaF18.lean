-- By oprint.py.
import Derived.Test.YtlddkafpbhjpdaaF0
import Derived.Test.YtlddkafpbhjpdaaF11
import Derived.Test.YtlddkafpbhjpdaaF13
import Derived.Test.YtlddkafpbhjpdaaF17
import Derived.Test.YtlddkafpbhjpdaaF9
namespace Go.Proofs.Ytlddkafpbhjpdaa.F
open Go.RowKit Go.Proofs.YtlddkafpbhjpdaaW.PrintWords Go.Proofs.YtlddkafpbhjpdaaW.PrintLast Go.Proofs.YtlddkafpbhjpdaaW.PrintMore
attribute [local go_sem] max2_int min2_int max_two min_two max_three min_three max_four min_four
set_option linter.unusedVariables false
set_option linter.unusedSimpArgs false

/-! ### impl_twoKnots: function 43 -/
def impl_twoKnots.f (k : Nat) (a0_0 : Int) (l0_1 : List (S44)) (a1 : Int) (a2 : Int) : Option (Bool) := (impl_NetOk.f k a0_0 l0_1).bind fun t541 => (if t541 = true then ((impl_Net_knot.f a0_0 l0_1 a1).bind fun t542 => (if t542 = true then ((impl_Net_knot.f a0_0 l0_1 a2).bind fun t543 => (if t543 = true then (some (a1 != a2)) else (some false))) else (some false))) else (some false))
theorem impl_twoKnots.mono : ∀ a b c d k, LeO (impl_twoKnots.f k a b c d) (impl_twoKnots.f (k + 1) a b c d) := by
 intro a b c d k; unfold impl_twoKnots.f; have m0_ := @impl_NetOk.mono; exact mo_
set_option maxHeartbeats 8000000 in
set_option maxRecDepth 100000 in
theorem impl_twoKnots.calls (k : Nat) (c : Int) (d : Option Addr) (g : Nat) (b : List (S44)) (l : Int) (m : Int) (r : Bool) (w : World) (x : Kd.C k44 w d b.length b) (y : b.length ≤ g) (h : impl_twoKnots.f k c b l m = some r) :
  Calls Try.prog 43 #[.agg #[.int .i64 c, .slice d b.length g], .int .i64 l, .int .i64 m] w fun e w' => e = .returned (.bool r) ∧ Below w.heap.size w w' := by
 have E := Try.underlying25; have i := am x; have j := am y; clear x y; have HB := am (Below.refl w.heap.size w)
 have H : ((impl_NetOk.f k c b).bind fun o => (if o = true then ((impl_Net_knot.f c b l).bind fun p => (if p = true then ((impl_Net_knot.f c b m).bind fun q => (if q = true then (some (l != m)) else (some false))) else (some false))) else (some false))) = some r := h
 clear h; obtain ⟨o, n, H⟩ := bi_ H; by_cases z : o = true
 ·subst z; rw [if_pos rfl] at H; obtain ⟨p, s, H⟩ := bi_ H; by_cases A : p = true
  ·subst A; rw [if_pos rfl] at H; obtain ⟨q, B, H⟩ := bi_ H; by_cases D : q = true
   ·subst D; rw [if_pos rfl] at H; obtain rfl := Option.some.inj H; go_enter Try.func43, Try.ntmps43
    go_wp2_with (first | ((with_reducible refine gate_dst (N := 3) rfl ?_); refine bx_ 3 #[.int .i64 c, .slice d b.length g] 25 HB ?_; clear HB; intro t hg w10 hb a u HB; clear hb hg; have G := c2 a) | ((with_reducible refine gate_callee (f := 31) rfl ?_); refine gl_ (some 8) Try.func31 #[.agg #[.int .i64 c, .slice d b.length g]] ?_; (with_reducible refine (impl_NetOk.calls k c _ _ b true _ ?z_1 ?z_2 n.out).mono ?_); (case z_1 => exact cb i HB); (case z_2 => exact j.out); rintro e w12 ⟨rfl, hb⟩; refine ⟨_, rfl, ?_⟩; replace a := bb a hb; replace HB := bs HB hb; (try clear hb); have I := c2 a) | (go_at_call 47; (with_reducible refine (impl_Net_knot.calls c _ _ b l true _ ?z_1 ?z_2 s.out).mono ?_); (case z_1 => exact cb i HB); (case z_2 => exact j.out); rintro e w14 ⟨rfl, hb⟩; replace a := bb a hb; replace HB := bs HB hb; (try clear hb); have J := c2 a) | (go_at_call 47; (with_reducible refine (impl_Net_knot.calls c _ _ b m true _ ?z_1 ?z_2 B.out).mono ?_); (case z_1 => exact cb i HB); (case z_2 => exact j.out); rintro e w16 ⟨rfl, hb⟩; replace a := bb a hb; replace HB := bs HB hb; (try clear hb)))
    go_ret
    exact ⟨er_, bn HB⟩
   ·obtain rfl := nt_ D; rw [if_neg nf_] at H; obtain rfl := Option.some.inj H; go_enter Try.func43, Try.ntmps43
    go_wp2_with (first | ((with_reducible refine gate_dst (N := 3) rfl ?_); refine bx_ 3 #[.int .i64 c, .slice d b.length g] 25 HB ?_; clear HB; intro t hg w17 hb a u HB; clear hb hg; have K := c2 a) | ((with_reducible refine gate_callee (f := 31) rfl ?_); refine gl_ (some 8) Try.func31 #[.agg #[.int .i64 c, .slice d b.length g]] ?_; (with_reducible refine (impl_NetOk.calls k c _ _ b true _ ?z_1 ?z_2 n.out).mono ?_); (case z_1 => exact cb i HB); (case z_2 => exact j.out); rintro e w19 ⟨rfl, hb⟩; refine ⟨_, rfl, ?_⟩; replace a := bb a hb; replace HB := bs HB hb; (try clear hb); have L := c2 a) | (go_at_call 47; (with_reducible refine (impl_Net_knot.calls c _ _ b l true _ ?z_1 ?z_2 s.out).mono ?_); (case z_1 => exact cb i HB); (case z_2 => exact j.out); rintro e w21 ⟨rfl, hb⟩; replace a := bb a hb; replace HB := bs HB hb; (try clear hb); have M := c2 a) | (go_at_call 47; (with_reducible refine (impl_Net_knot.calls c _ _ b m false _ ?z_1 ?z_2 B.out).mono ?_); (case z_1 => exact cb i HB); (case z_2 => exact j.out); rintro e w23 ⟨rfl, hb⟩; replace a := bb a hb; replace HB := bs HB hb; (try clear hb)))
    go_ret
    exact ⟨er_, bn HB⟩
  ·obtain rfl := nt_ A; rw [if_neg nf_] at H; obtain rfl := Option.some.inj H; go_enter Try.func43, Try.ntmps43
   go_wp2_with (first | ((with_reducible refine gate_dst (N := 3) rfl ?_); refine bx_ 3 #[.int .i64 c, .slice d b.length g] 25 HB ?_; clear HB; intro t hg w24 hb a u HB; clear hb hg; have O := c2 a) | ((with_reducible refine gate_callee (f := 31) rfl ?_); refine gl_ (some 8) Try.func31 #[.agg #[.int .i64 c, .slice d b.length g]] ?_; (with_reducible refine (impl_NetOk.calls k c _ _ b true _ ?z_1 ?z_2 n.out).mono ?_); (case z_1 => exact cb i HB); (case z_2 => exact j.out); rintro e w26 ⟨rfl, hb⟩; refine ⟨_, rfl, ?_⟩; replace a := bb a hb; replace HB := bs HB hb; (try clear hb); have P := c2 a) | (go_at_call 47; (with_reducible refine (impl_Net_knot.calls c _ _ b l false _ ?z_1 ?z_2 s.out).mono ?_); (case z_1 => exact cb i HB); (case z_2 => exact j.out); rintro e w28 ⟨rfl, hb⟩; replace a := bb a hb; replace HB := bs HB hb; (try clear hb)))
   go_ret
   exact ⟨er_, bn HB⟩
 ·obtain rfl := nt_ z; rw [if_neg nf_] at H; obtain rfl := Option.some.inj H; go_enter Try.func43, Try.ntmps43
  go_wp2_with (first | ((with_reducible refine gate_dst (N := 3) rfl ?_); refine bx_ 3 #[.int .i64 c, .slice d b.length g] 25 HB ?_; clear HB; intro t hg w29 hb a u HB; clear hb hg; have T := c2 a) | ((with_reducible refine gate_callee (f := 31) rfl ?_); refine gl_ (some 8) Try.func31 #[.agg #[.int .i64 c, .slice d b.length g]] ?_; (with_reducible refine (impl_NetOk.calls k c _ _ b false _ ?z_1 ?z_2 n.out).mono ?_); (case z_1 => exact cb i HB); (case z_2 => exact j.out); rintro e w31 ⟨rfl, hb⟩; refine ⟨_, rfl, ?_⟩; replace a := bb a hb; replace HB := bs HB hb; (try clear hb)))
  go_ret
  exact ⟨er_, bn HB⟩

/-! ### impl_Net_without: function 46 -/
def impl_Net_without.l0 : Nat → Int → List (S44) → Int → Int → Int → List (S44) → Option (Int × (List (S44)))
 | 0, _, _, _, _, _, _ => none
 | k + 1, x1, x13, x14, x15, x550000, x550001 => if x15 < x14 then (if 0 ≤ x15 then (if x15 < (x13.length : Int) then (if ((rd_T44 x13 x15).f0) = x1 then (impl_Net_without.l0 k x1 x13 x14 (wrap64 (x15 + 1)) x550000 x550001) else (if ((rd_T44 x13 x15).f1) = x1 then (impl_Net_without.l0 k x1 x13 x14 (wrap64 (x15 + 1)) x550000 x550001) else (if x550001.length < 8796093022208 then (impl_Net_without.l0 k x1 x13 x14 (wrap64 (x15 + 1)) x550000 (x550001 ++ [(⟨(rd_T44 x13 x15).f0, (rd_T44 x13 x15).f1⟩ : S44)])) else (none)))) else (none)) else (none)) else (some (x550000, x550001))
def impl_Net_without.f (k : Nat) (a0_0 : Int) (l0_1 : List (S44)) (a1 : Int) : Option (Int × (List (S44))) := impl_Net_without.l0 k a1 l0_1 (l0_1.length : Int) 0 a0_0 (([] : List (S44)))
theorem impl_Net_without.mono_l : ∀ k, (∀ a b c d e f, LeO (impl_Net_without.l0 k a b c d e f) (impl_Net_without.l0 (k + 1) a b c d e f))
 | 0 => fun _ _ _ _ _ _ r h => by simp [impl_Net_without.l0] at h
 | k + 1 => by
  have ih0 := impl_Net_without.mono_l k
  ·intro a b c d e f; unfold impl_Net_without.l0; exact mo_
theorem impl_Net_without.mono : ∀ a b c k, LeO (impl_Net_without.f k a b c) (impl_Net_without.f (k + 1) a b c) := by
 intro a b c k; have ih0 := impl_Net_without.mono_l k; unfold impl_Net_without.f; exact mo_
set_option maxHeartbeats 8000000 in
set_option maxRecDepth 100000 in
theorem impl_Net_without.calls (k : Nat) (n : Int) (U : Option Addr) (W : Nat) (a : List (S44)) (l : Int) (B : Int) (D : List (S44)) (w : World) (ai : Kd.C k44 w U a.length a) (aj : a.length ≤ W) (h : impl_Net_without.f k n a l = some (B, D)) :
  Calls Try.prog 46 #[.agg #[.int .i64 n, .slice U a.length W], .int .i64 l] w fun e w' => ∃ ak : Value, e = .returned (.agg #[.int .i64 B, ak]) ∧ Kd.R k44 44 w' w.heap.size (fun _ => True) ak D ∧ Below w.heap.size w w' := by
 have a2 := Try.underlying25; have a3 := Try.underlying44; have Y := am ai; have a4 := am aj; clear ai aj; have HB := am (Below.refl w.heap.size w)
 have H : (impl_Net_without.l0 k l a (a.length : Int) 0 n (([] : List (S44)))) = some (B, D) := h
 clear h; obtain ⟨Z, aa⟩ : ∃ y_ : List (S44), y_ = (([] : List (S44))) := ⟨_, rfl⟩; replace H : (impl_Net_without.l0 k l a (a.length : Int) 0 n Z) = some (B, D) := nh_ aa H; have al := am aa; clear aa; have H' := am H; clear H; go_enter Try.func46, Try.ntmps46
 go_wp2_with (first | ((with_reducible refine gate_dst (N := 2) rfl ?_); refine bx_ 2 #[.int .i64 n, .slice U a.length W] 25 HB ?_; clear HB; intro ax hg w3 hb d a5 HB; clear hb hg) | ((with_reducible refine gate_dst (N := 4) rfl ?_); refine bx_ 4 #[.int .i64 0, .slice none 0 0] 25 HB ?_; clear HB; intro an hg w4 hb i a6 HB; obtain ⟨ap, aq⟩ := nb_ hg d; replace d := bb d hb; clear hb hg; have a7 := n2 ap aq; have ay := c2 d) | ((with_reducible refine gate_dst (N := 10) rfl ?_); refine Kd.R_lit k44 _ 44 ?hg (N := 10) ?hd (xs := ([] : List (S44))) (inner := []) (ok := fun _ => True) (okp := fun _ => True) ?hr ?hp (fun _ hk => hk) trivial (Below.refl _ _) (Nat.le_refl _) (by simp) ?_; (case hd => rfl); (case hg => rfl); (case hr => first | (go_simp; done) | (go_simp; rfl)); (case hp => exact (Reps.none _ _)); intro a8 w7 I hb az aA; clear az aA; (first | rw [← al.out] at I | (simp only [Int.reduceToNat] at I; rw [← al.out] at I)); have X := am (Kd.R_lower I (below_size (bn HB))); replace d := bb d hb; replace i := bb i hb; replace HB := bs HB hb; clear hb I; obtain ⟨aC, aD, aE⟩ := Kd.R_slice X.out; subst aE) | ((with_reducible refine gate_dst (N := 5) rfl ?_); refine bx_ 5 #[.int .i64 0, .slice none 0 0] 25 HB ?_; clear HB; intro aG hg w10 hb j a9 HB; replace X := am (Kd.R_below (onR X) hb); obtain ⟨ab, ad⟩ := nb_ hg d; replace d := bb d hb; obtain ⟨ae, af⟩ := nb_ hg i; replace i := bb i hb; clear hb hg; have ba := n2 ad ab; have bd := n2 af ae; have aH := c2 j; have aI := c2 d))
 go_loopg [15] k (fun kq aJ w' => ∃ (c : Int) (s : List (S44)) (u550001 : Value), aJ = .int .i64 c ∧ Aside0 (impl_Net_without.l0 kq l a (a.length : Int) c n s = some (B, D)) ∧ Aside0 (kq ≤ k) ∧ Aside0 (Kd.R k44 44 w' w.heap.size (fun _ => True) u550001 s) ∧ Bk w' ax (.cells #[.int .i64 n, (.slice U a.length W)] 25 (0, 0)) ∧ Bk w' an (.cells #[.int .i64 0, (.slice none 0 0)] 25 (0, 0)) ∧ Bk w' aG (.cells #[.int .i64 n, u550001] 25 (0, 0)) ∧ Aside0 (Below w.heap.size w w'))
 case atStart => exact ⟨(0), (Z), (.slice aC Z.length aD), rs_, H', ⟨Nat.le_refl _⟩, ⟨Kd.R_mono (onR X) (fun _ hk => trivial)⟩, ⟨bkn d⟩, ⟨bkn i⟩, ⟨by (with_reducible repeat (first | refine blk_drewN ?_ _ | refine blk_drew ?_ | refine blk_alloc ?_ _)); refine blk_put (cs := #[.int .i64 n, .slice none 0 0]) ?_ 1 _ rfl; (with_reducible repeat (first | refine blk_drewN ?_ _ | refine blk_drew ?_ | refine blk_alloc ?_ _)); refine blk_put (cs := #[.int .i64 0, .slice none 0 0]) ?_ 0 _ rfl; (with_reducible repeat (first | refine blk_drewN ?_ _ | refine blk_drew ?_ | refine blk_alloc ?_ _)); exact j.out⟩, ⟨bn HB⟩⟩
 case round =>
  clear H'; (try clear aH aI ay); obtain ⟨c, s, u550001, rfl, HA, E, m, d, i, j, HB⟩ := hrel; cases gk with
  | zero => exact absurd HA.out (by simp [impl_Net_without.l0])
  | succ k1 =>
   have H := HA.out; clear HA; simp only [impl_Net_without.l0] at H; by_cases G : c < (a.length : Int)
   ·rw [if_pos G] at H; have aK := decide_eq_true G; clear G; obtain ⟨be, H⟩ := id_ H; obtain ⟨bf, H⟩ := id_ H; by_cases y : ((rd_T44 a c).f0) = l
    ·rw [if_pos y] at H; have aM : (((rd_T44 a c).f0) == l) = true := beq_iff_eq.mpr y; have aN : (((rd_T44 a c).f0) != l) = false := bne_eq_false_iff_eq.mpr y; clear y; have H' := am H; clear H; have p : 0 ≤ (c : Int) := oa; have q : c < (a.length : Int) := oa; obtain ⟨ar, J, t, u⟩ := at_T44 Y.out c p q; cases J; replace t := hc_ HB t; replace u := hc_ HB u; obtain ⟨p, q⟩ := e2_ p q
     go_wp2_with (first | ((with_reducible refine gate_dst (N := 7) rfl ?_); refine bx_ 7 #[.int .i64 0, .int .i64 0] 44 HB ?_; clear HB; intro z hg w19 hb x au HB; replace m := am (Kd.R_below (Kd.R_elderB (onR m) z (Nat.le_of_eq hg.symm)) hb); obtain ⟨K, L⟩ := nb_ hg d; replace d := bb d hb; obtain ⟨M, O⟩ := nb_ hg i; replace i := bb i hb; obtain ⟨P, T⟩ := nb_ hg j; replace j := bb j hb; clear hb hg; have bg := n2 L K; have bh := n2 O M; have bi := n2 T P; have bj := c2 x))
     go_roundg k1
     case measure => have := E.out; omega
     case rel => exact ⟨(wrap64 (c + 1)), (s), (u550001), rs_, H', ⟨by have := E.out; omega⟩, ⟨Kd.R_mono (onR m) (fun _ hk => trivial)⟩, ⟨bkn d⟩, ⟨bkn i⟩, ⟨bkn j⟩, ⟨bn HB⟩⟩
    ·rw [if_neg y] at H; have aM : (((rd_T44 a c).f0) == l) = false := beq_eq_false_iff_ne.mpr y; have aN : (((rd_T44 a c).f0) != l) = true := bne_iff_ne.mpr y; by_cases A : ((rd_T44 a c).f1) = l
     ·rw [if_pos A] at H; have aQ : (((rd_T44 a c).f1) == l) = true := beq_iff_eq.mpr A; have aR : (((rd_T44 a c).f1) != l) = false := bne_eq_false_iff_eq.mpr A; clear A; have H' := am H; clear H; have p : 0 ≤ (c : Int) := oa; have q : c < (a.length : Int) := oa; obtain ⟨ar, J, t, u⟩ := at_T44 Y.out c p q; cases J; replace t := hc_ HB t; replace u := hc_ HB u; obtain ⟨p, q⟩ := e2_ p q
      go_wp2_with (first | ((with_reducible refine gate_dst (N := 7) rfl ?_); refine bx_ 7 #[.int .i64 0, .int .i64 0] 44 HB ?_; clear HB; intro z hg w25 hb x au HB; replace m := am (Kd.R_below (Kd.R_elderB (onR m) z (Nat.le_of_eq hg.symm)) hb); obtain ⟨K, L⟩ := nb_ hg d; replace d := bb d hb; obtain ⟨M, O⟩ := nb_ hg i; replace i := bb i hb; obtain ⟨P, T⟩ := nb_ hg j; replace j := bb j hb; clear hb hg; have bk := n2 L K; have bl := n2 O M; have bo := n2 T P; have bp := c2 x))
      go_roundg k1
      case measure => have := E.out; omega
      case rel => exact ⟨(wrap64 (c + 1)), (s), (u550001), rs_, H', ⟨by have := E.out; omega⟩, ⟨Kd.R_mono (onR m) (fun _ hk => trivial)⟩, ⟨bkn d⟩, ⟨bkn i⟩, ⟨bkn j⟩, ⟨bn HB⟩⟩
     ·rw [if_neg A] at H; have aQ : (((rd_T44 a c).f1) == l) = false := beq_eq_false_iff_ne.mpr A; have aR : (((rd_T44 a c).f1) != l) = true := bne_iff_ne.mpr A; obtain ⟨av, H⟩ := ig_ H; have aT := am av; clear av; obtain ⟨ag, ah⟩ : ∃ y_ : List (S44), y_ = (s ++ [(⟨(rd_T44 a c).f0, (rd_T44 a c).f1⟩ : S44)]) := ⟨_, rfl⟩; replace H : (impl_Net_without.l0 k1 l a (a.length : Int) (wrap64 (c + 1)) n ag) = some (B, D) := nh_ ah H; have aU := am ah; clear ah; have H' := am H; clear H; have p : 0 ≤ (c : Int) := oa; have q : c < (a.length : Int) := oa; obtain ⟨ar, J, t, u⟩ := at_T44 Y.out c p q; cases J; replace t := hc_ HB t; replace u := hc_ HB u; obtain ⟨p, q⟩ := e2_ p q
      go_wp2_with (first | ((with_reducible refine gate_dst (N := 7) rfl ?_); refine bx_ 7 #[.int .i64 0, .int .i64 0] 44 HB ?_; clear HB; intro z hg w31 hb x au HB; replace m := am (Kd.R_below (Kd.R_elderB (onR m) z (Nat.le_of_eq hg.symm)) hb); obtain ⟨K, L⟩ := nb_ hg d; replace d := bb d hb; obtain ⟨M, O⟩ := nb_ hg i; replace i := bb i hb; obtain ⟨P, T⟩ := nb_ hg j; replace j := bb j hb; clear hb hg; have br := n2 L K; have bu := n2 O M; have bv := n2 T P; have bw := c2 x; have bx := n2 ad ab; have bz := n2 af ae; have bA := c2 j) | ((with_reducible refine gate_builtin (b := .append) (xs := #[.tmp 30, .tmp 32]) rfl ?_); at_builtin; refine Kd.R_append k44 (w0 := w) w.heap.size rfl (.tmp 30) (.tmp 32) 23 44 (.agg #[(.int .i64 0), (.int .i64 0)]) 16 rfl Try.underlying23 info44 rfl (by decide) (by omega) u550001 s (⟨(rd_T44 a c).f0, (rd_T44 a c).f1⟩ : S44) [.int .i64 ((rd_T44 a c).f0), .int .i64 ((rd_T44 a c).f1)] (fun k_ => k_ ≠ z) (fun _ => False) rfl (by first | (go_simp; done) | (go_simp; rfl)) ?aP (fun _ hk => hk.elim) ?aF ?aO ?aB ?aS ?aL ?_; (case aP => exact k44_mkM _ _ _ (⟨(rd_T44 a c).f0, (rd_T44 a c).f1⟩ : S44)); (case aB => exact (bn HB)); (case aF => exact (fun k_ hk => Kd.freshB (g := z) (o := .cells #[.int .i64 ((rd_T44 a c).f0), .int .i64 ((rd_T44 a c).f1)] 44 (0, 0)) (bkn x) k_ hk)); (case aO => exact (Kd.R_mono (onR m) (fun _ hk => hk.2))); (case aS => exact (below_size (bn HB))); (case aL => have := aT.out; omega); intro bB w39 ho hb hg aV; rw [← aU.out] at ho; replace d := bm (blk_grown (bkn d) hg (Kd.R_ne m.out d.out (by decide))); replace i := bm (blk_grown (bkn i) hg (Kd.R_ne m.out i.out (by decide))); replace j := bm (blk_grown (bkn j) hg (Kd.R_ne m.out j.out (by decide))); replace x := bm (blk_grown (bkn x) hg (Kd.R_away m.out (fun _ hk => hk.2))); replace HB := am hb; have aw := am ho; clear m; clear ho hb hg aV; obtain ⟨aW, aX, aY⟩ := Kd.R_slice aw.out; subst aY; have bC := c2 j))
      go_roundg k1
      case measure => have := E.out; omega
      case rel => exact ⟨(wrap64 (c + 1)), (ag), (.slice aW ag.length aX), rs_, H', ⟨by have := E.out; omega⟩, ⟨Kd.R_mono (onR aw) (fun _ hk => trivial)⟩, ⟨bkn d⟩, ⟨bkn i⟩, ⟨by (with_reducible repeat (first | refine blk_drewN ?_ _ | refine blk_drew ?_ | refine blk_alloc ?_ _)); refine blk_put (cs := #[.int .i64 n, u550001]) ?_ 1 _ rfl; (with_reducible repeat (first | refine blk_drewN ?_ _ | refine blk_drew ?_ | refine blk_alloc ?_ _)); exact j.out⟩, ⟨bn HB⟩⟩
   ·rw [if_neg G] at H; have aK := decide_eq_false G; clear G; simp only [Option.some.injEq, Prod.mk.injEq] at H; obtain ⟨rfl, rfl⟩ := H; have bD := n2 ad ab; have bE := n2 af ae; have bF := c2 j; have bG := n2 aq ap; have bH := c2 i; obtain ⟨aZ, a0, a1⟩ := Kd.R_slice m.out; subst a1; go_wp2; refine bodyPost_ret (results_cell_row rfl _ _ an 25 #[.int .i64 n, .slice aZ s.length a0] (0, 0) _ rfl (bkn i) Try.underlying25 rfl (by kernel_rfl)) rfl ?_; exact ⟨_, er_, Kd.R_mono (onR m) (fun _ hk => trivial), bn HB⟩

/-! ### impl_TwoCut: function 16 -/
mutual
def impl_TwoCut.j0 : Nat → Int → Int → Bool → Int → List (S44) → Option (Int × Bool)
 | 0, _, _, _, _, _ => none
 | k + 1, x1, x2, x26, x556000, x556001 => if x26 = true then (some (0, false)) else (impl_TwoCut.l0 k x1 x2 x556000 0 x556000 x556001)
def impl_TwoCut.l0 : Nat → Int → Int → Int → Int → Int → List (S44) → Option (Int × Bool)
 | 0, _, _, _, _, _, _ => none
 | k + 1, x1, x2, x28, x29, x556000, x556001 => if x29 < x28 then (if x29 = x1 then (impl_TwoCut.l0 k x1 x2 x28 (wrap64 (x29 + 1)) x556000 x556001) else (if x29 = x2 then (impl_TwoCut.l0 k x1 x2 x28 (wrap64 (x29 + 1)) x556000 x556001) else ((impl_Net_without.f k x556000 x556001 x29).bind fun bt559 => ((impl_Net_joined.f k bt559.1 bt559.2 x1 x2).bind fun t563 => (if t563 = true then (impl_TwoCut.l0 k x1 x2 x28 (wrap64 (x29 + 1)) x556000 x556001) else (some (x29, true))))))) else (some (0, false))
end
def impl_TwoCut.f (k : Nat) (a0_0 : Int) (l0_1 : List (S44)) (a1 : Int) (a2 : Int) : Option (Int × Bool) := (impl_twoKnots.f k a0_0 l0_1 a1 a2).bind fun t556 => (if t556 = true then ((impl_Net_joined.f k a0_0 l0_1 a1 a2).bind fun t557 => (if t557 = true then ((impl_Net_has.f k a0_0 l0_1 a1 a2).bind fun t558 => (impl_TwoCut.j0 k a1 a2 t558 a0_0 l0_1)) else (impl_TwoCut.j0 k a1 a2 true a0_0 l0_1))) else (impl_TwoCut.j0 k a1 a2 true a0_0 l0_1))
theorem impl_TwoCut.mono_l : ∀ k, (∀ a b c d e, LeO (impl_TwoCut.j0 k a b c d e) (impl_TwoCut.j0 (k + 1) a b c d e)) ∧ (∀ a b c d e f, LeO (impl_TwoCut.l0 k a b c d e f) (impl_TwoCut.l0 (k + 1) a b c d e f))
 | 0 => ⟨fun _ _ _ _ _ r h => by simp [impl_TwoCut.j0] at h, fun _ _ _ _ _ _ r h => by simp [impl_TwoCut.l0] at h⟩
 | k + 1 => by
  obtain ⟨ih0, ih1⟩ := impl_TwoCut.mono_l k; refine ⟨?_, ?_⟩
  ·intro a b c d e; unfold impl_TwoCut.j0; have g := @impl_Net_has.mono; have i := @impl_Net_joined.mono; have j := @impl_Net_without.mono; have l := @impl_twoKnots.mono; exact mo_
  ·intro a b c d e f; unfold impl_TwoCut.l0; have g := @impl_Net_has.mono; have i := @impl_Net_joined.mono; have j := @impl_Net_without.mono; have l := @impl_twoKnots.mono; exact mo_
theorem impl_TwoCut.mono : ∀ a b c d k, LeO (impl_TwoCut.f k a b c d) (impl_TwoCut.f (k + 1) a b c d) := by
 intro a b c d k; obtain ⟨ih0, ih1⟩ := impl_TwoCut.mono_l k; unfold impl_TwoCut.f; have m0_ := @impl_Net_has.mono; have m1_ := @impl_Net_joined.mono; have m2_ := @impl_Net_without.mono; have m3_ := @impl_twoKnots.mono; exact mo_
set_option maxHeartbeats 8000000 in
set_option maxRecDepth 100000 in
theorem impl_TwoCut.calls (k : Nat) (c : Int) (l : Option Addr) (m : Nat) (b : List (S44)) (d : Int) (g : Int) (x : Int) (y : Bool) (w : World) (P : Kd.C k44 w l b.length b) (T : b.length ≤ m) (h : impl_TwoCut.f k c b d g = some (x, y)) :
  Calls Try.prog 16 #[.agg #[.int .i64 c, .slice l b.length m], .int .i64 d, .int .i64 g] w fun e w' => e = .returned (.tuple #[.int .i64 x, .bool y]) ∧ Below w.heap.size w w' := by
 have ay := Try.underlying25; have n := am P; have o := am T; clear P T; have HB := am (Below.refl w.heap.size w)
 have H : ((impl_twoKnots.f k c b d g).bind fun J => (if J = true then ((impl_Net_joined.f k c b d g).bind fun K => (if K = true then ((impl_Net_has.f k c b d g).bind fun A => (impl_TwoCut.j0 k d g A c b)) else (impl_TwoCut.j0 k d g true c b))) else (impl_TwoCut.j0 k d g true c b))) = some (x, y) := h
 clear h; have L := am H; clear H; go_enter Try.func16, Try.ntmps16
 go_upto_region 1 with (first | ((with_reducible refine gate_dst (N := 3) rfl ?_); refine bx_ 3 #[.int .i64 c, .slice l b.length m] 25 HB ?_; clear HB; intro U hg w5 hb a az HB; clear hb hg))
 (try simp only [Act.put, List.setIfInBounds_toArray, List.set_cons_zero, List.set_cons_succ])
 go_cut [26] (fun ah wc => ∃ (kq : Nat) (B : Bool), ah = .bool B ∧ Aside0 (impl_TwoCut.j0 kq d g B c b = some (x, y)) ∧ Aside0 (kq ≤ k) ∧ Bk wc U (.cells #[.int .i64 c, (.slice l b.length m)] 25 (0, 0)) ∧ Aside0 (Below w.heap.size w wc))
 case first =>
  have H := L.out; clear L; obtain ⟨J, M, H⟩ := bi_ H; by_cases D : J = true
  ·subst D; rw [if_pos rfl] at H; obtain ⟨K, W, H⟩ := bi_ H; by_cases E : K = true
   ·subst E; rw [if_pos rfl] at H; obtain ⟨A, ai, H⟩ := bi_ H; have H' := am H; clear H; have X := c2 a
    go_wp2_with (first | ((with_reducible refine gate_callee (f := 43) rfl ?_); refine gl_ (some 12) Try.func43 #[.agg #[.int .i64 c, .slice l b.length m], .int .i64 d, .int .i64 g] ?_; (with_reducible refine (impl_twoKnots.calls k c _ _ b d g true _ ?z_1 ?z_2 M.out).mono ?_); (case z_1 => exact cb n HB); (case z_2 => exact o.out); rintro e w12 ⟨rfl, hb⟩; refine ⟨_, rfl, ?_⟩; replace a := bb a hb; replace HB := bs HB hb; (try clear hb); have Y := c2 a) | (go_at_call 44; (with_reducible refine (impl_Net_joined.calls k c _ _ b d g true _ ?z_1 ?z_2 W.out).mono ?_); (case z_1 => exact cb n HB); (case z_2 => exact o.out); rintro e w14 ⟨rfl, hb⟩; replace a := bb a hb; replace HB := bs HB hb; (try clear hb); have Z := c2 a) | (go_at_call 45; (with_reducible refine (impl_Net_has.calls k c _ _ b d g A _ ?z_1 ?z_2 ai.out).mono ?_); (case z_1 => exact cb n HB); (case z_2 => exact o.out); rintro e w16 ⟨rfl, hb⟩; replace a := bb a hb; replace HB := bs HB hb; (try clear hb)))
    go_meet
    case rel => exact ⟨_, (A), rs_, H', ⟨by first | omega | exact Nat.le_refl _⟩, ⟨bkn a⟩, ⟨bn HB⟩⟩
   ·obtain rfl := nt_ E; rw [if_neg nf_] at H; have H' := am H; clear H; have aa := c2 a
    go_wp2_with (first | ((with_reducible refine gate_callee (f := 43) rfl ?_); refine gl_ (some 12) Try.func43 #[.agg #[.int .i64 c, .slice l b.length m], .int .i64 d, .int .i64 g] ?_; (with_reducible refine (impl_twoKnots.calls k c _ _ b d g true _ ?z_1 ?z_2 M.out).mono ?_); (case z_1 => exact cb n HB); (case z_2 => exact o.out); rintro e w18 ⟨rfl, hb⟩; refine ⟨_, rfl, ?_⟩; replace a := bb a hb; replace HB := bs HB hb; (try clear hb); have ab := c2 a) | (go_at_call 44; (with_reducible refine (impl_Net_joined.calls k c _ _ b d g false _ ?z_1 ?z_2 W.out).mono ?_); (case z_1 => exact cb n HB); (case z_2 => exact o.out); rintro e w20 ⟨rfl, hb⟩; replace a := bb a hb; replace HB := bs HB hb; (try clear hb)))
    go_meet
    case rel => exact ⟨_, (true), rs_, H', ⟨by first | omega | exact Nat.le_refl _⟩, ⟨bkn a⟩, ⟨bn HB⟩⟩
  ·obtain rfl := nt_ D; rw [if_neg nf_] at H; have H' := am H; clear H; have ad := c2 a
   go_wp2_with (first | ((with_reducible refine gate_callee (f := 43) rfl ?_); refine gl_ (some 12) Try.func43 #[.agg #[.int .i64 c, .slice l b.length m], .int .i64 d, .int .i64 g] ?_; (with_reducible refine (impl_twoKnots.calls k c _ _ b d g false _ ?z_1 ?z_2 M.out).mono ?_); (case z_1 => exact cb n HB); (case z_2 => exact o.out); rintro e w22 ⟨rfl, hb⟩; refine ⟨_, rfl, ?_⟩; replace a := bb a hb; replace HB := bs HB hb; (try clear hb)))
   go_meet
   case rel => exact ⟨_, (true), rs_, H', ⟨by first | omega | exact Nat.le_refl _⟩, ⟨bkn a⟩, ⟨bn HB⟩⟩
 case rest =>
  clear L; (try clear D E X Y Z aa ab ad); obtain ⟨kq, B, rfl, HA, s, a, HB⟩ := hcut; cases kq with
  | zero => exact absurd HA.out (by simp [impl_TwoCut.j0])
  | succ kj3 =>
   have H := HA.out; clear HA; simp only [impl_TwoCut.j0] at H; by_cases O : B = true
   ·subst O; rw [if_pos rfl] at H; simp only [Option.some.injEq, Prod.mk.injEq] at H; obtain ⟨rfl, rfl⟩ := H; go_wp2
    go_ret2
    exact ⟨er_, bn HB⟩
   ·obtain rfl := nt_ O; rw [if_neg nf_] at H; have H' := am H; clear H; have aj := c2 a; go_wp2
    go_loopg [29] kj3 (fun kq ak w' => ∃ (i : Int), ak = .int .i64 i ∧ Aside0 (impl_TwoCut.l0 kq d g c i c b = some (x, y)) ∧ Aside0 (kq ≤ kj3) ∧ Bk w' U (.cells #[.int .i64 c, (.slice l b.length m)] 25 (0, 0)) ∧ Aside0 (Below w.heap.size w w'))
    case atStart => exact ⟨(0), rs_, H', ⟨Nat.le_refl _⟩, ⟨bkn a⟩, ⟨bn HB⟩⟩
    case round =>
     clear H'; (try clear c2 D E O X Y Z aa ab ad aj); obtain ⟨i, rfl, HA, t, a, HB⟩ := hrel; cases gk with
     | zero => exact absurd HA.out (by simp [impl_TwoCut.l0])
     | succ k2 =>
      have H := HA.out; clear HA; simp only [impl_TwoCut.l0] at H; by_cases u : i < c
      ·rw [if_pos u] at H; have al := decide_eq_true u; clear u; by_cases p : i = d
       ·rw [if_pos p] at H; have an : (i == d) = true := beq_iff_eq.mpr p; have ap : (i != d) = false := bne_eq_false_iff_eq.mpr p; clear p; have H' := am H; clear H; go_wp2
        go_roundg k2
        case measure => have := s.out; have := t.out; omega
        case rel => exact ⟨(wrap64 (i + 1)), rs_, H', ⟨by have := s.out; have := t.out; omega⟩, ⟨bkn a⟩, ⟨bn HB⟩⟩
       ·rw [if_neg p] at H; have an : (i == d) = false := beq_eq_false_iff_ne.mpr p; have ap : (i != d) = true := bne_iff_ne.mpr p; by_cases q : i = g
        ·rw [if_pos q] at H; have aq : (i == g) = true := beq_iff_eq.mpr q; have ar : (i != g) = false := bne_eq_false_iff_eq.mpr q; clear q; have H' := am H; clear H; go_wp2
         go_roundg k2
         case measure => have := s.out; have := t.out; omega
         case rel => exact ⟨(wrap64 (i + 1)), rs_, H', ⟨by have := s.out; have := t.out; omega⟩, ⟨bkn a⟩, ⟨bn HB⟩⟩
        ·rw [if_neg q] at H; have aq : (i == g) = false := beq_eq_false_iff_ne.mpr q; have ar : (i != g) = true := bne_iff_ne.mpr q; obtain ⟨⟨G, I⟩, ae, H⟩ := bi_ H; (try dsimp only at H); obtain ⟨au, af, H⟩ := bi_ H; by_cases ag : au = true
         ·subst ag; rw [if_pos rfl] at H; have H' := am H; clear H; have aA := c2 a
          go_wp2_with (first | (go_at_call 46; (with_reducible refine (impl_Net_without.calls k2 c _ _ b i G I _ ?z_1 ?z_2 ae.out).mono ?_); (case z_1 => exact cb n HB); (case z_2 => exact o.out); rintro e w32 ⟨av, rfl, z, hb⟩; have j := am (Kd.R_lower z (below_size (bn HB))); replace a := bb a hb; replace HB := bs HB hb; (try clear hb z); obtain ⟨aB, aC, aw⟩ := Kd.R_slice j.out; subst aw) | (go_at_call 44; (with_reducible refine (impl_Net_joined.calls k2 G _ _ I d g true _ ?z_1 ?z_2 af.out).mono ?_); (case z_1 => exact (Kd.R_reads' (onR j)).2.2); (case z_2 => exact (Kd.R_reads' j.out).2.1); rintro e w34 ⟨rfl, hb⟩; replace j := am (Kd.R_below (onR j) hb); replace a := bb a hb; replace HB := bs HB hb; (try clear hb)))
          go_roundg k2
          case measure => have := s.out; have := t.out; omega
          case rel => exact ⟨(wrap64 (i + 1)), rs_, H', ⟨by have := s.out; have := t.out; omega⟩, ⟨bkn a⟩, ⟨bn HB⟩⟩
         ·obtain rfl := nt_ ag; rw [if_neg nf_] at H; simp only [Option.some.injEq, Prod.mk.injEq] at H; obtain ⟨rfl, rfl⟩ := H; have aD := c2 a
          go_wp2_with (first | (go_at_call 46; (with_reducible refine (impl_Net_without.calls k2 c _ _ b i G I _ ?z_1 ?z_2 ae.out).mono ?_); (case z_1 => exact cb n HB); (case z_2 => exact o.out); rintro e w36 ⟨av, rfl, z, hb⟩; have j := am (Kd.R_lower z (below_size (bn HB))); replace a := bb a hb; replace HB := bs HB hb; (try clear hb z); obtain ⟨aE, aF, ax⟩ := Kd.R_slice j.out; subst ax) | (go_at_call 44; (with_reducible refine (impl_Net_joined.calls k2 G _ _ I d g false _ ?z_1 ?z_2 af.out).mono ?_); (case z_1 => exact (Kd.R_reads' (onR j)).2.2); (case z_2 => exact (Kd.R_reads' j.out).2.1); rintro e w38 ⟨rfl, hb⟩; replace j := am (Kd.R_below (onR j) hb); replace a := bb a hb; replace HB := bs HB hb; (try clear hb)))
          go_ret2
          exact ⟨er_, bn HB⟩
      ·rw [if_neg u] at H; have al := decide_eq_false u; clear u; simp only [Option.some.injEq, Prod.mk.injEq] at H; obtain ⟨rfl, rfl⟩ := H; go_wp2
       go_ret2
       exact ⟨er_, bn HB⟩

/-! ### laws_loIn: function 18 -/
def laws_loIn.l0 : Nat → List Int → Int → Int → Option (Bool)
 | 0, _, _, _ => none
 | k + 1, x0, x1, x5 => if x5 < (x0.length : Int) then (if 0 ≤ x5 then (if (rd x0 x5) = x1 then (some true) else (laws_loIn.l0 k x0 x1 (wrap64 (x5 + 1)))) else (none)) else (some false)
def laws_loIn.f (k : Nat) (l0 : List Int) (a1 : Int) : Option (Bool) := laws_loIn.l0 k l0 a1 0
theorem laws_loIn.mono_l : ∀ k, (∀ a b c, LeO (laws_loIn.l0 k a b c) (laws_loIn.l0 (k + 1) a b c))
 | 0 => fun _ _ _ r h => by simp [laws_loIn.l0] at h
 | k + 1 => by
  have ih0 := laws_loIn.mono_l k
  ·intro a b c; unfold laws_loIn.l0; exact mo_
theorem laws_loIn.mono : ∀ a b k, LeO (laws_loIn.f k a b) (laws_loIn.f (k + 1) a b) := by
 intro a b k; have ih0 := laws_loIn.mono_l k; unfold laws_loIn.f; exact mo_
set_option maxHeartbeats 8000000 in
set_option maxRecDepth 100000 in
theorem laws_loIn.calls (k : Nat) (l : Option Addr) (m : Nat) (l0 : List Int) (b : Int) (r : Bool) (w : World) (n : Kd.C (Kd.int .i64) w l l0.length l0) (o : l0.length ≤ m) (h : laws_loIn.f k l0 b = some r) :
  Calls Try.prog 18 #[.slice l l0.length m, .int .i64 b] w fun e w' => e = .returned (.bool r) ∧ Drawn0 w w' := by
 have p := am n; have HC0 := am o; clear n o
 have H : (laws_loIn.l0 k l0 b 0) = some r := h
 clear h; have H' := am H; clear H; go_enter Try.func18, Try.ntmps18; go_wp2
 go_loopg [5] k (fun kq s w' => ∃ (a : Int), s = .int .i64 a ∧ Aside0 (laws_loIn.l0 kq l0 b a = some r) ∧ Aside0 (kq ≤ k) ∧ Drawn0 w w')
 case atStart => exact ⟨(0), rs_, H', ⟨Nat.le_refl _⟩, by repeat (first | exact Drawn0.refl _ | apply Drawn0.step)⟩
 case round =>
  clear H'; obtain ⟨a, rfl, HA, q, ⟨m1, rfl⟩⟩ := hrel; cases gk with
  | zero => exact absurd HA.out (by simp [laws_loIn.l0])
  | succ k1 =>
   have H := HA.out; clear HA; simp only [laws_loIn.l0] at H; by_cases i : a < (l0.length : Int)
   ·rw [if_pos i] at H; have t := decide_eq_true i; clear i; obtain ⟨A, H⟩ := id_ H; by_cases c : (rd l0 a) = b
    ·rw [if_pos c] at H; have u : ((rd l0 a) == b) = true := beq_iff_eq.mpr c; have x : ((rd l0 a) != b) = false := bne_eq_false_iff_eq.mpr c; clear c; obtain rfl := Option.some.inj H; have d : 0 ≤ (a : Int) := oa; have g : a < (l0.length : Int) := oa; obtain ⟨y, j, z⟩ := Kd.at_int p.out a d g; cases j; obtain ⟨d, g⟩ := e2_ d g; go_wp2
     go_ret
     exact ⟨rs_, by repeat (first | exact Drawn0.refl _ | apply Drawn0.step)⟩
    ·rw [if_neg c] at H; have u : ((rd l0 a) == b) = false := beq_eq_false_iff_ne.mpr c; have x : ((rd l0 a) != b) = true := bne_iff_ne.mpr c; have H' := am H; clear H; have d : 0 ≤ (a : Int) := oa; have g : a < (l0.length : Int) := oa; obtain ⟨y, j, z⟩ := Kd.at_int p.out a d g; cases j; obtain ⟨d, g⟩ := e2_ d g; go_wp2
     go_roundg k1
     case measure => have := q.out; omega
     case rel => exact ⟨(wrap64 (a + 1)), rs_, H', ⟨by have := q.out; omega⟩, by repeat (first | exact Drawn0.refl _ | apply Drawn0.step)⟩
   ·rw [if_neg i] at H; have t := decide_eq_false i; clear i; obtain rfl := Option.some.inj H; go_wp2
    go_ret
    exact ⟨rs_, by repeat (first | exact Drawn0.refl _ | apply Drawn0.step)⟩

/-! ### impl_Net_count: function 48 -/
def impl_Net_count.l0 : Nat → Int → List Int → Int → Int → Option (Int)
 | 0, _, _, _, _ => none
 | k + 1, x3, x7, x8, x9 => if x9 < x8 then (if 0 ≤ x9 then (if x9 < (x7.length : Int) then (if x9 = (rd x7 x9) then (impl_Net_count.l0 k (wrap64 (x3 + 1)) x7 x8 (wrap64 (x9 + 1))) else (impl_Net_count.l0 k x3 x7 x8 (wrap64 (x9 + 1)))) else (none)) else (none)) else (some x3)
def impl_Net_count.f (k : Nat) (a0_0 : Int) (l0_1 : List (S44)) : Option (Int) := (impl_Net_parts.f k a0_0 l0_1).bind fun t582 => (impl_Net_count.l0 k 0 t582 (t582.length : Int) 0)
theorem impl_Net_count.mono_l : ∀ k, (∀ a b c d, LeO (impl_Net_count.l0 k a b c d) (impl_Net_count.l0 (k + 1) a b c d))
 | 0 => fun _ _ _ _ r h => by simp [impl_Net_count.l0] at h
 | k + 1 => by
  have ih0 := impl_Net_count.mono_l k
  ·intro a b c d; unfold impl_Net_count.l0; have m0_ := @impl_Net_parts.mono; exact mo_
theorem impl_Net_count.mono : ∀ a b k, LeO (impl_Net_count.f k a b) (impl_Net_count.f (k + 1) a b) := by
 intro a b k; have ih0 := impl_Net_count.mono_l k; unfold impl_Net_count.f; have m0_ := @impl_Net_parts.mono; exact mo_
set_option maxHeartbeats 8000000 in
set_option maxRecDepth 100000 in
theorem impl_Net_count.calls (k : Nat) (d : Int) (n : Option Addr) (o : Nat) (c : List (S44)) (r : Int) (w : World) (u : Kd.C k44 w n c.length c) (x : c.length ≤ o) (h : impl_Net_count.f k d c = some r) :
  Calls Try.prog 48 #[.agg #[.int .i64 d, .slice n c.length o]] w fun e w' => e = .returned (.int .i64 r) ∧ Below w.heap.size w w' := by
 have X := Try.underlying25; have A := am u; have B := am x; clear u x; have HB := am (Below.refl w.heap.size w)
 have H : ((impl_Net_parts.f k d c).bind fun b => (impl_Net_count.l0 k 0 b (b.length : Int) 0)) = some r := h
 clear h; obtain ⟨b, D, H⟩ := bi_ H; have H' := am H; clear H; go_enter Try.func48, Try.ntmps48
 go_wp2_with (first | ((with_reducible refine gate_dst (N := 1) rfl ?_); refine bx_ 1 #[.int .i64 d, .slice n c.length o] 25 HB ?_; clear HB; intro E hg w3 hb g Y HB; clear hb hg; have G := c2 g) | ((with_reducible refine gate_callee (f := 67) rfl ?_); refine gl_ (some 7) Try.func67 #[.agg #[.int .i64 d, .slice n c.length o]] ?_; (with_reducible refine (impl_Net_parts.calls k d _ _ c b _ ?z_1 ?z_2 D.out).mono ?_); (case z_1 => exact cb A HB); (case z_2 => exact B.out); rintro e w5 ⟨Z, rfl, y, hb⟩; refine ⟨_, rfl, ?_⟩; have z := am (Kd.R_lower y (below_size (bn HB))); replace g := bb g hb; replace HB := bs HB hb; (try clear hb y); obtain ⟨I, J, K⟩ := Kd.R_slice z.out; subst K))
 go_loopg [3, 9] k (fun kq L M w' => ∃ (p : Int) (a : Int), L = .int .i64 p ∧ M = .int .i64 a ∧ Aside0 (impl_Net_count.l0 kq p b (b.length : Int) a = some r) ∧ Aside0 (kq ≤ k) ∧ Aside0 (Kd.R (Kd.int .i64) 3 w' w.heap.size (fun _ => True) (.slice I b.length J) b) ∧ Bk w' E (.cells #[.int .i64 d, (.slice n c.length o)] 25 (0, 0)) ∧ Aside0 (Below w.heap.size w w'))
 case atStart => exact ⟨(0), (0), rs_, rs_, H', ⟨Nat.le_refl _⟩, ⟨onR z⟩, ⟨bkn g⟩, ⟨bn HB⟩⟩
 case round =>
  clear H'; (try clear G); obtain ⟨p, a, rfl, rfl, HA, q, s, g, HB⟩ := hrel; cases gk with
  | zero => exact absurd HA.out (by simp [impl_Net_count.l0])
  | succ k1 =>
   have H := HA.out; clear HA; simp only [impl_Net_count.l0] at H; by_cases m : a < (b.length : Int)
   ·rw [if_pos m] at H; have O := decide_eq_true m; clear m; obtain ⟨aa, H⟩ := id_ H; obtain ⟨ab, H⟩ := id_ H; by_cases i : a = (rd b a)
    ·rw [if_pos i] at H; have P : (a == (rd b a)) = true := beq_iff_eq.mpr i; have T : (a != (rd b a)) = false := bne_eq_false_iff_eq.mpr i; clear i; have H' := am H; clear H; have j : 0 ≤ (a : Int) := oa; have l : a < (b.length : Int) := oa; obtain ⟨U, t, W⟩ := Kd.at_int (Kd.R_reads' s.out).2.2 a j l; cases t; obtain ⟨j, l⟩ := e2_ j l; go_wp2
     go_roundg k1
     case measure => have := q.out; omega
     case rel => exact ⟨(wrap64 (p + 1)), (wrap64 (a + 1)), rs_, rs_, H', ⟨by have := q.out; omega⟩, ⟨onR s⟩, ⟨bkn g⟩, ⟨bn HB⟩⟩
    ·rw [if_neg i] at H; have P : (a == (rd b a)) = false := beq_eq_false_iff_ne.mpr i; have T : (a != (rd b a)) = true := bne_iff_ne.mpr i; have H' := am H; clear H; have j : 0 ≤ (a : Int) := oa; have l : a < (b.length : Int) := oa; obtain ⟨U, t, W⟩ := Kd.at_int (Kd.R_reads' s.out).2.2 a j l; cases t; obtain ⟨j, l⟩ := e2_ j l; go_wp2
     go_roundg k1
     case measure => have := q.out; omega
     case rel => exact ⟨(p), (wrap64 (a + 1)), rs_, rs_, H', ⟨by have := q.out; omega⟩, ⟨onR s⟩, ⟨bkn g⟩, ⟨bn HB⟩⟩
   ·rw [if_neg m] at H; have O := decide_eq_false m; clear m; obtain rfl := Option.some.inj H; go_wp2
    go_ret
    exact ⟨er_, bn HB⟩

end Go.Proofs.Ytlddkafpbhjpdaa.F
