-- By oprint.py.
import Derived.Test.YthmddmobfkfgeaaF0
import Derived.Test.YthmddmobfkfgeaaF40
namespace Go.Proofs.Ythmddmobfkfgeaa.F
open Go.RowKit Go.Proofs.YthmddmobfkfgeaaW.PrintWords Go.Proofs.YthmddmobfkfgeaaW.PrintLast Go.Proofs.YthmddmobfkfgeaaW.PrintMore
attribute [local go_sem] max2_int min2_int max_two min_two max_three min_three max_four min_four
set_option linter.unusedVariables false
set_option linter.unusedSimpArgs false

/-! ### impl_Net_count: function 102 -/
def impl_Net_count.l0 : Nat → Int → List Int → Int → Int → Option (Int)
 | 0, _, _, _, _ => none
 | k + 1, x3, x7, x8, x9 => if x9 < x8 then (if 0 ≤ x9 then (if x9 < (x7.length : Int) then (if x9 = (rd x7 x9) then (impl_Net_count.l0 k (wrap64 (x3 + 1)) x7 x8 (wrap64 (x9 + 1))) else (impl_Net_count.l0 k x3 x7 x8 (wrap64 (x9 + 1)))) else (none)) else (none)) else (some x3)
def impl_Net_count.f (k : Nat) (a0_0 : Int) (l0_1 : List (S33)) : Option (Int) := (impl_Net_parts.f k a0_0 l0_1).bind fun t858 => (impl_Net_count.l0 k 0 t858 (t858.length : Int) 0)
theorem impl_Net_count.mono_l : ∀ k, (∀ a b c d, LeO (impl_Net_count.l0 k a b c d) (impl_Net_count.l0 (k + 1) a b c d))
 | 0 => fun _ _ _ _ r h => by simp [impl_Net_count.l0] at h
 | k + 1 => by
  have ih0 := impl_Net_count.mono_l k
  ·intro a b c d; unfold impl_Net_count.l0; have m0_ := @impl_Net_parts.mono; exact mo_
theorem impl_Net_count.mono : ∀ a b k, LeO (impl_Net_count.f k a b) (impl_Net_count.f (k + 1) a b) := by
 intro a b k; have ih0 := impl_Net_count.mono_l k; unfold impl_Net_count.f; have m0_ := @impl_Net_parts.mono; exact mo_
set_option maxHeartbeats 8000000 in
set_option maxRecDepth 100000 in
theorem impl_Net_count.calls (k : Nat) (d : Int) (n : Option Addr) (o : Nat) (c : List (S33)) (r : Int) (w : World) (u : Kd.C k33 w n c.length c) (x : c.length ≤ o) (h : impl_Net_count.f k d c = some r) :
  Calls Try.prog 102 #[.agg #[.int .i64 d, .slice n c.length o]] w fun e w' => e = .returned (.int .i64 r) ∧ Below w.heap.size w w' := by
 have X := Try.underlying31; have A := am u; have B := am x; clear u x; have HB := am (Below.refl w.heap.size w)
 have H : ((impl_Net_parts.f k d c).bind fun b => (impl_Net_count.l0 k 0 b (b.length : Int) 0)) = some r := h
 clear h; obtain ⟨b, D, H⟩ := bi_ H; have H' := am H; clear H; go_enter Try.func102, Try.ntmps102
 go_wp2_with (first | ((with_reducible refine gate_dst (N := 1) rfl ?_); refine bx_ 1 #[.int .i64 d, .slice n c.length o] 31 HB ?_; clear HB; intro E hg w3 hb g Y HB; clear hb hg; have G := c2 g) | ((with_reducible refine gate_callee (f := 139) rfl ?_); refine gl_ (some 7) Try.func139 #[.agg #[.int .i64 d, .slice n c.length o]] ?_; (with_reducible refine (impl_Net_parts.calls k d _ _ c b _ ?z_1 ?z_2 D.out).mono ?_); (case z_1 => exact cb A HB); (case z_2 => exact B.out); rintro e w5 ⟨Z, rfl, y, hb⟩; refine ⟨_, rfl, ?_⟩; have z := am (Kd.R_lower y (below_size (bn HB))); replace g := bb g hb; replace HB := bs HB hb; (try clear hb y); obtain ⟨I, J, K⟩ := Kd.R_slice z.out; subst K))
 go_loopg [3, 9] k (fun kq L M w' => ∃ (p : Int) (a : Int), L = .int .i64 p ∧ M = .int .i64 a ∧ Aside0 (impl_Net_count.l0 kq p b (b.length : Int) a = some r) ∧ Aside0 (kq ≤ k) ∧ Aside0 (Kd.R (Kd.int .i64) 3 w' w.heap.size (fun _ => True) (.slice I b.length J) b) ∧ Bk w' E (.cells #[.int .i64 d, (.slice n c.length o)] 31 (0, 0)) ∧ Aside0 (Below w.heap.size w w'))
 case atStart => exact ⟨(0), (0), rs_, rs_, H', ⟨Nat.le_refl _⟩, ⟨onR z⟩, ⟨bkn g⟩, ⟨bn HB⟩⟩
 case round =>
  clear H'; (try clear G); obtain ⟨p, a, rfl, rfl, HA, q, s, g, HB⟩ := hrel; cases gk with
  | zero => exact absurd HA.out (by simp [impl_Net_count.l0])
  | succ k1 =>
   have H := HA.out; clear HA; simp only [impl_Net_count.l0] at H; by_cases m : a < (b.length : Int)
   ·rw [if_pos m] at H; have O := decide_eq_true m; clear m; obtain ⟨aa, H⟩ := id_ H; obtain ⟨ab, H⟩ := id_ H; by_cases i : a = (rd b a)
    ·rw [if_pos i] at H; have P : (a == (rd b a)) = true := beq_iff_eq.mpr i; have T : (a != (rd b a)) = false := bne_eq_false_iff_eq.mpr i; clear i; have H' := am H; clear H; have j : 0 ≤ (a : Int) := oa; have l : a < (b.length : Int) := oa; obtain ⟨U, t, W⟩ := Kd.at_int (Kd.R_reads' s.out).2.2 a j l; cases t; obtain ⟨j, l⟩ := e2_ j l; go_wp2
     go_roundg k1
     case measure => have := q.out; omega
     case rel => exact ⟨(wrap64 (p + 1)), (wrap64 (a + 1)), rs_, rs_, H', ⟨by have := q.out; omega⟩, ⟨onR s⟩, ⟨bkn g⟩, ⟨bn HB⟩⟩
    ·rw [if_neg i] at H; have P : (a == (rd b a)) = false := beq_eq_false_iff_ne.mpr i; have T : (a != (rd b a)) = true := bne_iff_ne.mpr i; have H' := am H; clear H; have j : 0 ≤ (a : Int) := oa; have l : a < (b.length : Int) := oa; obtain ⟨U, t, W⟩ := Kd.at_int (Kd.R_reads' s.out).2.2 a j l; cases t; obtain ⟨j, l⟩ := e2_ j l; go_wp2
     go_roundg k1
     case measure => have := q.out; omega
     case rel => exact ⟨(p), (wrap64 (a + 1)), rs_, rs_, H', ⟨by have := q.out; omega⟩, ⟨onR s⟩, ⟨bkn g⟩, ⟨bn HB⟩⟩
   ·rw [if_neg m] at H; have O := decide_eq_false m; clear m; obtain rfl := Option.some.inj H; go_wp2
    go_ret
    exact ⟨er_, bn HB⟩

end Go.Proofs.Ythmddmobfkfgeaa.F
