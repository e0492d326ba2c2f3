-- By oprint.py.
import Derived.Test.YtikmhohgjmandaaF0
import Derived.Test.YtikmhohgjmandaaF1
import Derived.Test.YtikmhohgjmandaaF4
namespace Go.Proofs.Ytikmhohgjmandaa.F
open Go.RowKit Go.Proofs.YtikmhohgjmandaaW.PrintWords Go.Proofs.YtikmhohgjmandaaW.PrintLast Go.Proofs.YtikmhohgjmandaaW.PrintMore
attribute [local go_sem] max2_int min2_int max_two min_two max_three min_three max_four min_four
set_option linter.unusedVariables false
set_option linter.unusedSimpArgs false

attribute [local go_sem high] eqA45
/-! ### spec_l2Next: function 55 -/
def spec_l2Next.l0 : Nat → Int → List Int → Int → Int → List (S45) → Option (List Int)
 | 0, _, _, _, _, _ => none
 | k + 1, x1, x5, x6, x301000, x301001 => if x6 < x301000 then ((spec_l1Has.f k x301000 x301001 x1 x6).bind fun t304 => (if t304 = true then (if x5.length < 17592186044416 then (spec_l2Next.l0 k x1 (x5 ++ [x6]) (wrap64 (x6 + 1)) x301000 x301001) else (none)) else (spec_l2Next.l0 k x1 x5 (wrap64 (x6 + 1)) x301000 x301001))) else (some x5)
def spec_l2Next.f (k : Nat) (a0_0 : Int) (l0_1 : List (S45)) (a1 : Int) : Option (List Int) := spec_l2Next.l0 k a1 (([] : List Int)) 0 a0_0 l0_1
theorem spec_l2Next.mono_l : ∀ k, (∀ a b c d e, LeO (spec_l2Next.l0 k a b c d e) (spec_l2Next.l0 (k + 1) a b c d e))
 | 0 => fun _ _ _ _ _ r h => by simp [spec_l2Next.l0] at h
 | k + 1 => by
  have ih0 := spec_l2Next.mono_l k
  ·intro a b c d e; unfold spec_l2Next.l0; have m0_ := @spec_l1Has.mono; exact mo_
theorem spec_l2Next.mono : ∀ a b c k, LeO (spec_l2Next.f k a b c) (spec_l2Next.f (k + 1) a b c) := by
 intro a b c k; have ih0 := spec_l2Next.mono_l k; unfold spec_l2Next.f; have m0_ := @spec_l1Has.mono; exact mo_
set_option maxHeartbeats 8000000 in
set_option maxRecDepth 100000 in
theorem spec_l2Next.calls (k : Nat) (g : Int) (l : Option Addr) (m : Nat) (c : List (S45)) (i : Int) (r : List Int) (w : World) (u : Kd.C k45 w l c.length c) (x : c.length ≤ m) (h : spec_l2Next.f k g c i = some r) :
  Calls Try.prog 55 #[.agg #[.int .i64 g, .slice l c.length m], .int .i64 i] w fun e w' => ∃ y : Value, e = .returned (y) ∧ Kd.R (Kd.int .i64) 3 w' w.heap.size (fun _ => True) y r ∧ Below w.heap.size w w' := by
 have ab := Try.underlying25; have z := am u; have A := am x; clear u x; have HB := am (Below.refl w.heap.size w)
 have H : (spec_l2Next.l0 k i (([] : List Int)) 0 g c) = some r := h
 clear h; obtain ⟨B, s⟩ : ∃ y_ : List Int, y_ = (([] : List Int)) := ⟨_, rfl⟩; replace H : (spec_l2Next.l0 k i B 0 g c) = some r := nh_ s H; have D := am s; clear s; have H' := am H; clear H; go_enter Try.func55, Try.ntmps55
 go_wp2_with (first | ((with_reducible refine gate_dst (N := 2) rfl ?_); refine bx_ 2 #[.int .i64 g, .slice l c.length m] 25 HB ?_; clear HB; intro K hg w3 hb a ad HB; clear hb hg) | ((with_reducible refine gate_dst (N := 7) rfl ?_); refine Kd.R_lit (Kd.int .i64) _ 3 ?hg (N := 7) ?hd (xs := ([] : List Int)) (inner := []) (ok := fun _ => True) (okp := fun _ => True) ?hr ?hp (fun _ hk => hk) trivial (Below.refl _ _) (Nat.le_refl _) (by simp) ?_; (case hd => rfl); (case hg => rfl); (case hr => first | (go_simp; done) | (go_simp; rfl)); (case hp => exact (Reps.none _ _)); intro ae w4 p hb L M; clear L M; (first | rw [← D.out] at p | (simp only [Int.reduceToNat] at p; rw [← D.out] at p)); have O := am (Kd.R_lower p (below_size (bn HB))); replace a := bb a hb; replace HB := bs HB hb; clear hb p))
 go_loopg [5, 6] k (fun kq P T w' => ∃ (n : List Int) (d : Int), T = .int .i64 d ∧ Aside0 (spec_l2Next.l0 kq i n d g c = some r) ∧ Aside0 (kq ≤ k) ∧ Aside0 (Kd.R (Kd.int .i64) 3 w' w.heap.size (fun _ => True) P n) ∧ Bk w' K (.cells #[.int .i64 g, (.slice l c.length m)] 25 (0, 0)) ∧ Aside0 (Below w.heap.size w w'))
 case atStart => exact ⟨(B), (0), rs_, H', ⟨Nat.le_refl _⟩, ⟨onR O⟩, ⟨bkn a⟩, ⟨bn HB⟩⟩
 case round =>
  clear H'; obtain ⟨n, d, rfl, HA, q, j, a, HB⟩ := hrel; cases gk with
  | zero => exact absurd HA.out (by simp [spec_l2Next.l0])
  | succ k1 =>
   have H := HA.out; clear HA; simp only [spec_l2Next.l0] at H; by_cases o : d < g
   ·rw [if_pos o] at H; have U := decide_eq_true o; clear o; obtain ⟨W, E, H⟩ := bi_ H; by_cases G : W = true
    ·subst G; rw [if_pos rfl] at H; obtain ⟨I, H⟩ := ig_ H; have X := am I; clear I; obtain ⟨J, t⟩ : ∃ y_ : List Int, y_ = (n ++ [d]) := ⟨_, rfl⟩; replace H : (spec_l2Next.l0 k1 i J (wrap64 (d + 1)) g c) = some r := nh_ t H; have Y := am t; clear t; have H' := am H; clear H; have af := c2 a
     go_wp2_with (first | ((with_reducible refine gate_callee (f := 68) rfl ?_); refine gl_ (some 17) Try.func68 #[.agg #[.int .i64 g, .slice l c.length m], .int .i64 i, .int .i64 d] ?_; (with_reducible refine (spec_l1Has.calls k1 g _ _ c i d true _ ?z_1 ?z_2 E.out).mono ?_); (case z_1 => exact cb z HB); (case z_2 => exact A.out); rintro e w11 ⟨rfl, hb⟩; refine ⟨_, rfl, ?_⟩; replace j := am (Kd.R_below (onR j) hb); replace a := bb a hb; replace HB := bs HB hb; (try clear hb)) | ((with_reducible refine gate_builtin (b := .append) (xs := #[.tmp 18, .tmp 20]) rfl ?_); at_builtin; refine Kd.R_append (Kd.int .i64) (w0 := w) w.heap.size rfl (.tmp 18) (.tmp 20) 30 3 (.int .i64 0) 8 rfl Try.underlying30 info3 rfl (by decide) (by omega) u5 n d [.int .i64 d] (fun _ => True) (fun _ => False) rfl rfl ?aP (fun _ hk => hk.elim) ?aF ?aO ?aB ?aS ?aL ?_; (case aP => exact rfl); (case aB => exact (bn HB)); (case aF => exact (fun _ _ => trivial)); (case aO => exact (onR j)); (case aS => exact (below_size (bn HB))); (case aL => have := X.out; omega); intro ag w12 ho hb hg Z; rw [← Y.out] at ho; replace a := bm (blk_grown (bkn a) hg (Kd.R_ne j.out a.out (by decide))); replace HB := am hb; have aa := am ho; clear j; clear ho hb hg Z))
     go_roundg k1
     case measure => have := q.out; omega
     case rel => exact ⟨(J), (wrap64 (d + 1)), rs_, H', ⟨by have := q.out; omega⟩, ⟨onR aa⟩, ⟨bkn a⟩, ⟨bn HB⟩⟩
    ·obtain rfl := nt_ G; rw [if_neg nf_] at H; have H' := am H; clear H; have ah := c2 a
     go_wp2_with (first | ((with_reducible refine gate_callee (f := 68) rfl ?_); refine gl_ (some 17) Try.func68 #[.agg #[.int .i64 g, .slice l c.length m], .int .i64 i, .int .i64 d] ?_; (with_reducible refine (spec_l1Has.calls k1 g _ _ c i d false _ ?z_1 ?z_2 E.out).mono ?_); (case z_1 => exact cb z HB); (case z_2 => exact A.out); rintro e w14 ⟨rfl, hb⟩; refine ⟨_, rfl, ?_⟩; replace j := am (Kd.R_below (onR j) hb); replace a := bb a hb; replace HB := bs HB hb; (try clear hb)))
     go_roundg k1
     case measure => have := q.out; omega
     case rel => exact ⟨(n), (wrap64 (d + 1)), rs_, H', ⟨by have := q.out; omega⟩, ⟨onR j⟩, ⟨bkn a⟩, ⟨bn HB⟩⟩
   ·rw [if_neg o] at H; have U := decide_eq_false o; clear o; obtain rfl := Option.some.inj H; have ai := c2 a; go_wp2
    go_ret
    exact ⟨_, er_, onR j, bn HB⟩

/-! ### slices_Index_impl_Tie_impl_Tie: function 75 -/
def slices_Index_impl_Tie_impl_Tie.l0 : Nat → List (S45) → Int → Int → Int → Int → Option (Int)
 | 0, _, _, _, _, _ => none
 | k + 1, x0, x7, x8, x401000, x401001 => if x8 < x7 then (if 0 ≤ x8 then (if x8 < (x0.length : Int) then (if (x401000 == ((rd_T45 x0 x8).f0) && (x401001 == ((rd_T45 x0 x8).f1))) = true then (some x8) else (slices_Index_impl_Tie_impl_Tie.l0 k x0 x7 (wrap64 (x8 + 1)) x401000 x401001)) else (none)) else (none)) else (some (-1))
def slices_Index_impl_Tie_impl_Tie.f (k : Nat) (l0 : List (S45)) (a1_0 : Int) (a1_1 : Int) : Option (Int) := slices_Index_impl_Tie_impl_Tie.l0 k l0 (l0.length : Int) 0 a1_0 a1_1
theorem slices_Index_impl_Tie_impl_Tie.mono_l : ∀ k, (∀ a b c d e, LeO (slices_Index_impl_Tie_impl_Tie.l0 k a b c d e) (slices_Index_impl_Tie_impl_Tie.l0 (k + 1) a b c d e))
 | 0 => fun _ _ _ _ _ r h => by simp [slices_Index_impl_Tie_impl_Tie.l0] at h
 | k + 1 => by
  have ih0 := slices_Index_impl_Tie_impl_Tie.mono_l k
  ·intro a b c d e; unfold slices_Index_impl_Tie_impl_Tie.l0; exact mo_
theorem slices_Index_impl_Tie_impl_Tie.mono : ∀ a b c k, LeO (slices_Index_impl_Tie_impl_Tie.f k a b c) (slices_Index_impl_Tie_impl_Tie.f (k + 1) a b c) := by
 intro a b c k; have ih0 := slices_Index_impl_Tie_impl_Tie.mono_l k; unfold slices_Index_impl_Tie_impl_Tie.f; exact mo_
set_option maxHeartbeats 8000000 in
set_option maxRecDepth 100000 in
theorem slices_Index_impl_Tie_impl_Tie.calls (k : Nat) (q : Option Addr) (s : Nat) (l0 : List (S45)) (b : Int) (c : Int) (r : Int) (w : World) (t : Kd.C k45 w q l0.length l0) (u : l0.length ≤ s) (h : slices_Index_impl_Tie_impl_Tie.f k l0 b c = some r) :
  Calls Try.prog 75 #[.slice q l0.length s, .agg #[.int .i64 b, .int .i64 c]] w fun e w' => e = .returned (.int .i64 r) ∧ Below w.heap.size w w' := by
 have K := Try.underlying45; have x := am t; have HC0 := am u; clear t u; have HB := am (Below.refl w.heap.size w)
 have H : (slices_Index_impl_Tie_impl_Tie.l0 k l0 (l0.length : Int) 0 b c) = some r := h
 clear h; have H' := am H; clear H; go_enter Try.func75, Try.ntmps75
 go_wp2_with (first | ((with_reducible refine gate_dst (N := 3) rfl ?_); refine bx_ 3 #[.int .i64 b, .int .i64 c] 45 HB ?_; clear HB; intro o hg y hb g z HB; clear hb hg))
 repeat (go_quiet (first | ((with_reducible refine gate_dst (N := 3) rfl ?_); refine bx_ 3 #[.int .i64 b, .int .i64 c] 45 HB ?_; clear HB; intro o hg y hb g z HB; clear hb hg)); try go_wp2_with (first | ((with_reducible refine gate_dst (N := 3) rfl ?_); refine bx_ 3 #[.int .i64 b, .int .i64 c] 45 HB ?_; clear HB; intro o hg y hb g z HB; clear hb hg)))
 go_loopg [8] k (fun kq B w' => ∃ (a : Int), B = .int .i64 a ∧ Aside0 (slices_Index_impl_Tie_impl_Tie.l0 kq l0 (l0.length : Int) a b c = some r) ∧ Aside0 (kq ≤ k) ∧ Bk w' o (.cells #[.int .i64 b, .int .i64 c] 45 (0, 0)) ∧ Aside0 (Below w.heap.size w w'))
 case atStart => exact ⟨(0), rs_, H', ⟨Nat.le_refl _⟩, ⟨bkn g⟩, ⟨bn HB⟩⟩
 case round =>
  clear H'; obtain ⟨a, rfl, HA, A, g, HB⟩ := hrel; cases gk with
  | zero => exact absurd HA.out (by simp [slices_Index_impl_Tie_impl_Tie.l0])
  | succ k1 =>
   have H := HA.out; clear HA; simp only [slices_Index_impl_Tie_impl_Tie.l0] at H; by_cases l : a < (l0.length : Int)
   ·rw [if_pos l] at H; have D := decide_eq_true l; clear l; obtain ⟨L, H⟩ := id_ H; obtain ⟨M, H⟩ := id_ H; by_cases d : (b == ((rd_T45 l0 a).f0) && (c == ((rd_T45 l0 a).f1))) = true
    ·rw [if_pos d] at H; have E : (b == ((rd_T45 l0 a).f0) && (c == ((rd_T45 l0 a).f1))) = true := d; (try (have G : decide (b = ((rd_T45 l0 a).f0) && (c == ((rd_T45 l0 a).f1))) = true := by simpa using d)); (try (have I : (b == ((rd_T45 l0 a).f0) && (c == ((rd_T45 l0 a).f1))) = true := by simpa using d)); clear d; obtain rfl := Option.some.inj H; have O := c2 g; have i : 0 ≤ (a : Int) := oa; have j : a < (l0.length : Int) := oa; obtain ⟨J, p, m, n⟩ := at_T45 x.out a i j; cases p; replace m := hc_ HB m; replace n := hc_ HB n; obtain ⟨i, j⟩ := e2_ i j; go_wp2
     repeat (go_quiet (fail); try go_wp2)
     go_ret
     exact ⟨er_, bn HB⟩
    ·rw [if_neg d] at H; have E : (b == ((rd_T45 l0 a).f0) && (c == ((rd_T45 l0 a).f1))) = false := by simpa using d
     (try (have G : decide (b = ((rd_T45 l0 a).f0) && (c == ((rd_T45 l0 a).f1))) = false := by simpa using d)); (try (have I : (b == ((rd_T45 l0 a).f0) && (c == ((rd_T45 l0 a).f1))) = false := by simpa using d)); (try (have P : ¬ (b = ((rd_T45 l0 a).f0) && (c == ((rd_T45 l0 a).f1))) := by simpa using d)); clear d; have H' := am H; clear H; have T := c2 g; have i : 0 ≤ (a : Int) := oa; have j : a < (l0.length : Int) := oa; obtain ⟨J, p, m, n⟩ := at_T45 x.out a i j; cases p; replace m := hc_ HB m; replace n := hc_ HB n; obtain ⟨i, j⟩ := e2_ i j; go_wp2
     repeat (go_quiet (fail); try go_wp2)
     go_roundg k1
     case measure => have := A.out; omega
     case rel => exact ⟨(wrap64 (a + 1)), rs_, H', ⟨by have := A.out; omega⟩, ⟨bkn g⟩, ⟨bn HB⟩⟩
   ·rw [if_neg l] at H; have D := decide_eq_false l; clear l; obtain rfl := Option.some.inj H; go_wp2
    repeat (go_quiet (fail); try go_wp2)
    go_ret
    exact ⟨er_, bn HB⟩

/-! ### slices_Contains_impl_Tie_impl_Tie: function 61 -/
def slices_Contains_impl_Tie_impl_Tie.f (k : Nat) (l0 : List (S45)) (a1_0 : Int) (a1_1 : Int) : Option (Bool) := (slices_Index_impl_Tie_impl_Tie.f k l0 a1_0 a1_1).bind fun t403 => (some (decide (t403 ≥ 0)))
theorem slices_Contains_impl_Tie_impl_Tie.mono : ∀ a b c k, LeO (slices_Contains_impl_Tie_impl_Tie.f k a b c) (slices_Contains_impl_Tie_impl_Tie.f (k + 1) a b c) := by
 intro a b c k; unfold slices_Contains_impl_Tie_impl_Tie.f; have m0_ := @slices_Index_impl_Tie_impl_Tie.mono; exact mo_
set_option maxHeartbeats 8000000 in
set_option maxRecDepth 100000 in
theorem slices_Contains_impl_Tie_impl_Tie.calls (k : Nat) (d : Option Addr) (g : Nat) (a : List (S45)) (b : Int) (c : Int) (r : Bool) (w : World) (l : Kd.C k45 w d a.length a) (m : a.length ≤ g) (h : slices_Contains_impl_Tie_impl_Tie.f k a b c = some r) :
  Calls Try.prog 61 #[.slice d a.length g, .agg #[.int .i64 b, .int .i64 c]] w fun e w' => e = .returned (.bool r) ∧ Below w.heap.size w w' := by
 have q := Try.underlying45; have n := am l; have o := am m; clear l m; have HB := am (Below.refl w.heap.size w)
 have H : ((slices_Index_impl_Tie_impl_Tie.f k a b c).bind fun i => (some (decide (i ≥ 0)))) = some r := h
 clear h; obtain ⟨i, p, H⟩ := bi_ H; obtain rfl := Option.some.inj H; go_enter Try.func61, Try.ntmps61
 go_wp2_with (first | ((with_reducible refine gate_dst (N := 3) rfl ?_); refine bx_ 3 #[.int .i64 b, .int .i64 c] 45 HB ?_; clear HB; intro s hg w4 hb j t HB; clear hb hg; have u := c2 j) | ((with_reducible refine gate_callee (f := 75) rfl ?_); refine gl_ (some 7) Try.func75 #[.slice d a.length g, .agg #[.int .i64 b, .int .i64 c]] ?_; (with_reducible refine (slices_Index_impl_Tie_impl_Tie.calls k _ _ a b c i _ ?z_1 ?z_2 p.out).mono ?_); (case z_1 => exact cb n HB); (case z_2 => exact o.out); rintro e w6 ⟨rfl, hb⟩; refine ⟨_, rfl, ?_⟩; replace j := bb j hb; replace HB := bs HB hb; (try clear hb)))
 go_ret
 exact ⟨er_, bn HB⟩

end Go.Proofs.Ytikmhohgjmandaa.F
