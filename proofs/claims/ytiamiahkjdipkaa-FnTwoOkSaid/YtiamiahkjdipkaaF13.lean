-- By oprint.py.
import Derived.Test.YtiamiahkjdipkaaF0
import Derived.Test.YtiamiahkjdipkaaF4
namespace Go.Proofs.Ytiamiahkjdipkaa.F
open Go.RowKit Go.Proofs.YtiamiahkjdipkaaW.PrintWords Go.Proofs.YtiamiahkjdipkaaW.PrintLast Go.Proofs.YtiamiahkjdipkaaW.PrintMore
attribute [local go_sem] max2_int min2_int max_two min_two max_three min_three max_four min_four
set_option linter.unusedVariables false
set_option linter.unusedSimpArgs false

/-! ### spec_l2Next: function 70 -/
def spec_l2Next.l0 : Nat → Int → List Int → Int → Int → List (S35) → Option (List Int)
 | 0, _, _, _, _, _ => none
 | k + 1, x1, x5, x6, x320000, x320001 => if x6 < x320000 then ((spec_l1Has.f k x320000 x320001 x1 x6).bind fun t323 => (if t323 = true then (if x5.length < 17592186044416 then (spec_l2Next.l0 k x1 (x5 ++ [x6]) (wrap64 (x6 + 1)) x320000 x320001) else (none)) else (spec_l2Next.l0 k x1 x5 (wrap64 (x6 + 1)) x320000 x320001))) else (some x5)
def spec_l2Next.f (k : Nat) (a0_0 : Int) (l0_1 : List (S35)) (a1 : Int) : Option (List Int) := spec_l2Next.l0 k a1 (([] : List Int)) 0 a0_0 l0_1
theorem spec_l2Next.mono_l : ∀ k, (∀ a b c d e, LeO (spec_l2Next.l0 k a b c d e) (spec_l2Next.l0 (k + 1) a b c d e))
 | 0 => fun _ _ _ _ _ r h => by simp [spec_l2Next.l0] at h
 | k + 1 => by
  have ih0 := spec_l2Next.mono_l k
  ·intro a b c d e; unfold spec_l2Next.l0; have m0_ := @spec_l1Has.mono; exact mo_
theorem spec_l2Next.mono : ∀ a b c k, LeO (spec_l2Next.f k a b c) (spec_l2Next.f (k + 1) a b c) := by
 intro a b c k; have ih0 := spec_l2Next.mono_l k; unfold spec_l2Next.f; have m0_ := @spec_l1Has.mono; exact mo_
set_option maxHeartbeats 8000000 in
set_option maxRecDepth 100000 in
theorem spec_l2Next.calls (k : Nat) (g : Int) (l : Option Addr) (m : Nat) (c : List (S35)) (i : Int) (r : List Int) (w : World) (u : Kd.C k35 w l c.length c) (x : c.length ≤ m) (h : spec_l2Next.f k g c i = some r) :
  Calls Try.prog 70 #[.agg #[.int .i64 g, .slice l c.length m], .int .i64 i] w fun e w' => ∃ y : Value, e = .returned (y) ∧ Kd.R (Kd.int .i64) 3 w' w.heap.size (fun _ => True) y r ∧ Below w.heap.size w w' := by
 have ab := Try.underlying25; have z := am u; have A := am x; clear u x; have HB := am (Below.refl w.heap.size w)
 have H : (spec_l2Next.l0 k i (([] : List Int)) 0 g c) = some r := h
 clear h; obtain ⟨B, s⟩ : ∃ y_ : List Int, y_ = (([] : List Int)) := ⟨_, rfl⟩; replace H : (spec_l2Next.l0 k i B 0 g c) = some r := nh_ s H; have D := am s; clear s; have H' := am H; clear H; go_enter Try.func70, Try.ntmps70
 go_wp2_with (first | ((with_reducible refine gate_dst (N := 2) rfl ?_); refine bx_ 2 #[.int .i64 g, .slice l c.length m] 25 HB ?_; clear HB; intro K hg w3 hb a ad HB; clear hb hg) | ((with_reducible refine gate_dst (N := 7) rfl ?_); refine Kd.R_lit (Kd.int .i64) _ 3 ?hg (N := 7) ?hd (xs := ([] : List Int)) (inner := []) (ok := fun _ => True) (okp := fun _ => True) ?hr ?hp (fun _ hk => hk) trivial (Below.refl _ _) (Nat.le_refl _) (by simp) ?_; (case hd => rfl); (case hg => rfl); (case hr => first | (go_simp; done) | (go_simp; rfl)); (case hp => exact (Reps.none _ _)); intro ae w4 p hb L M; clear L M; (first | rw [← D.out] at p | (simp only [Int.reduceToNat] at p; rw [← D.out] at p)); have O := am (Kd.R_lower p (below_size (bn HB))); replace a := bb a hb; replace HB := bs HB hb; clear hb p))
 go_loopg [5, 6] k (fun kq P T w' => ∃ (n : List Int) (d : Int), T = .int .i64 d ∧ Aside0 (spec_l2Next.l0 kq i n d g c = some r) ∧ Aside0 (kq ≤ k) ∧ Aside0 (Kd.R (Kd.int .i64) 3 w' w.heap.size (fun _ => True) P n) ∧ Bk w' K (.cells #[.int .i64 g, (.slice l c.length m)] 25 (0, 0)) ∧ Aside0 (Below w.heap.size w w'))
 case atStart => exact ⟨(B), (0), rs_, H', ⟨Nat.le_refl _⟩, ⟨onR O⟩, ⟨bkn a⟩, ⟨bn HB⟩⟩
 case round =>
  clear H'; obtain ⟨n, d, rfl, HA, q, j, a, HB⟩ := hrel; cases gk with
  | zero => exact absurd HA.out (by simp [spec_l2Next.l0])
  | succ k1 =>
   have H := HA.out; clear HA; simp only [spec_l2Next.l0] at H; by_cases o : d < g
   ·rw [if_pos o] at H; have U := decide_eq_true o; clear o; obtain ⟨W, E, H⟩ := bi_ H; by_cases G : W = true
    ·subst G; rw [if_pos rfl] at H; obtain ⟨I, H⟩ := ig_ H; have X := am I; clear I; obtain ⟨J, t⟩ : ∃ y_ : List Int, y_ = (n ++ [d]) := ⟨_, rfl⟩; replace H : (spec_l2Next.l0 k1 i J (wrap64 (d + 1)) g c) = some r := nh_ t H; have Y := am t; clear t; have H' := am H; clear H; have af := c2 a
     go_wp2_with (first | ((with_reducible refine gate_callee (f := 84) rfl ?_); refine gl_ (some 17) Try.func84 #[.agg #[.int .i64 g, .slice l c.length m], .int .i64 i, .int .i64 d] ?_; (with_reducible refine (spec_l1Has.calls k1 g _ _ c i d true _ ?z_1 ?z_2 E.out).mono ?_); (case z_1 => exact cb z HB); (case z_2 => exact A.out); rintro e w11 ⟨rfl, hb⟩; refine ⟨_, rfl, ?_⟩; replace j := am (Kd.R_below (onR j) hb); replace a := bb a hb; replace HB := bs HB hb; (try clear hb)) | ((with_reducible refine gate_builtin (b := .append) (xs := #[.tmp 18, .tmp 20]) rfl ?_); at_builtin; refine Kd.R_append (Kd.int .i64) (w0 := w) w.heap.size rfl (.tmp 18) (.tmp 20) 36 3 (.int .i64 0) 8 rfl Try.underlying36 info3 rfl (by decide) (by omega) u5 n d [.int .i64 d] (fun _ => True) (fun _ => False) rfl rfl ?aP (fun _ hk => hk.elim) ?aF ?aO ?aB ?aS ?aL ?_; (case aP => exact rfl); (case aB => exact (bn HB)); (case aF => exact (fun _ _ => trivial)); (case aO => exact (onR j)); (case aS => exact (below_size (bn HB))); (case aL => have := X.out; omega); intro ag w12 ho hb hg Z; rw [← Y.out] at ho; replace a := bm (blk_grown (bkn a) hg (Kd.R_ne j.out a.out (by decide))); replace HB := am hb; have aa := am ho; clear j; clear ho hb hg Z))
     go_roundg k1
     case measure => have := q.out; omega
     case rel => exact ⟨(J), (wrap64 (d + 1)), rs_, H', ⟨by have := q.out; omega⟩, ⟨onR aa⟩, ⟨bkn a⟩, ⟨bn HB⟩⟩
    ·obtain rfl := nt_ G; rw [if_neg nf_] at H; have H' := am H; clear H; have ah := c2 a
     go_wp2_with (first | ((with_reducible refine gate_callee (f := 84) rfl ?_); refine gl_ (some 17) Try.func84 #[.agg #[.int .i64 g, .slice l c.length m], .int .i64 i, .int .i64 d] ?_; (with_reducible refine (spec_l1Has.calls k1 g _ _ c i d false _ ?z_1 ?z_2 E.out).mono ?_); (case z_1 => exact cb z HB); (case z_2 => exact A.out); rintro e w14 ⟨rfl, hb⟩; refine ⟨_, rfl, ?_⟩; replace j := am (Kd.R_below (onR j) hb); replace a := bb a hb; replace HB := bs HB hb; (try clear hb)))
     go_roundg k1
     case measure => have := q.out; omega
     case rel => exact ⟨(n), (wrap64 (d + 1)), rs_, H', ⟨by have := q.out; omega⟩, ⟨onR j⟩, ⟨bkn a⟩, ⟨bn HB⟩⟩
   ·rw [if_neg o] at H; have U := decide_eq_false o; clear o; obtain rfl := Option.some.inj H; have ai := c2 a; go_wp2
    go_ret
    exact ⟨_, er_, onR j, bn HB⟩

end Go.Proofs.Ytiamiahkjdipkaa.F
