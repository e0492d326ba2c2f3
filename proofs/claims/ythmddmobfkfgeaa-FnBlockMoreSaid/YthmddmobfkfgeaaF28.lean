-- By oprint.py.
import Derived.Test.YthmddmobfkfgeaaF0
import Derived.Test.YthmddmobfkfgeaaF20
import Derived.Test.YthmddmobfkfgeaaF27
namespace Go.Proofs.Ythmddmobfkfgeaa.F
open Go.RowKit Go.Proofs.YthmddmobfkfgeaaW.PrintWords Go.Proofs.YthmddmobfkfgeaaW.PrintLast Go.Proofs.YthmddmobfkfgeaaW.PrintMore
attribute [local go_sem] max2_int min2_int max_two min_two max_three min_three max_four min_four
set_option linter.unusedVariables false
set_option linter.unusedSimpArgs false

/-! ### spec_DrawNetAdd: function 37 -/
def spec_DrawNetAdd.f (k : Nat) (l0 : List Int) : Option (Int × (List (S33)) × Int × Int) := (spec_l6Open.f l0).bind fun bt602 => ((spec_l71Pair.f k bt602.1 bt602.2).bind fun bt605 => (some (bt605.1, bt605.2.1, bt605.2.2.1, bt605.2.2.2.1)))
theorem spec_DrawNetAdd.mono : ∀ a k, LeO (spec_DrawNetAdd.f k a) (spec_DrawNetAdd.f (k + 1) a) := by
 intro a k; unfold spec_DrawNetAdd.f; have m0_ := @spec_l71Pair.mono; exact mo_
set_option maxHeartbeats 8000000 in
set_option maxRecDepth 100000 in
theorem spec_DrawNetAdd.calls (k : Nat) (g : Option Addr) (i : Nat) (a : List Int) (j : Int) (l : List (S33)) (m : Int) (n : Int) (w : World) (o : Kd.C (Kd.int .u8) w g a.length a) (p : a.length ≤ i) (h : spec_DrawNetAdd.f k a = some (j, l, m, n)) :
  Calls Try.prog 37 #[.slice g a.length i] w fun e w' => ∃ q : Value, e = .returned (.tuple #[.agg #[.int .i64 j, q], .int .i64 m, .int .i64 n]) ∧ Kd.R k33 33 w' w.heap.size (fun _ => True) q l ∧ Below w.heap.size w w' := by
 have Y := Try.underlying31; have E := am o; have G := am p; clear o p; have HB := am (Below.refl w.heap.size w)
 have H : ((spec_l6Open.f a).bind fun s => ((spec_l71Pair.f k s.1 s.2).bind fun c => (some (c.1, c.2.1, c.2.2.1, c.2.2.2.1)))) = some (j, l, m, n) := h
 clear h; obtain ⟨⟨t, u⟩, I, H⟩ := bi_ H; (try dsimp only at H); obtain ⟨⟨x, y, J, K, L⟩, M, H⟩ := bi_ H; (try dsimp only at H); simp only [Option.some.injEq, Prod.mk.injEq] at H; obtain ⟨rfl, rfl, rfl, rfl⟩ := H; go_enter Try.func37, Try.ntmps37
 go_wp2_with (first | ((with_reducible refine gate_dst (N := 2) rfl ?_); refine bx_ 2 #[.int .i64 0, .slice none 0 0] 31 HB ?_; clear HB; intro O hg w4 hb b Z HB; clear hb hg) | ((with_reducible refine gate_callee (f := 89) rfl ?_); refine gl_ (some 6) Try.func89 #[.slice g a.length i] ?_; (with_reducible refine (spec_l6Open.calls _ _ a t u w _ ?z_1 ?z_2 ?z_3 I.out).mono ?_); (case z_1 => exact bn HB); (case z_2 => exact E.out); (case z_3 => exact G.out); rintro e w5 ⟨z, rfl, hi, hb, d⟩; refine ⟨_, rfl, ?_⟩; replace HB := am hb; have P := am hi; have T := am (IsS115.ne_blk hi (blk_below (bkn b) d) (by decide)); have A := am (Ne.symm (IsS115.ne_blk hi (blk_below (bkn b) d) (by decide))); replace b := bm (blk_below (bkn b) d); (try clear hb d hi)) | ((with_reducible refine gate_callee (f := 92) rfl ?_); refine gl_ (some 7) Try.func92 #[.pointer (some ⟨z, 0, none⟩)] ?_; (with_reducible refine (spec_l71Pair.calls k z t u x y J K L w _ ?z_1 ?z_2 M.out).mono ?_); (case z_1 => exact IsS115.now); (case z_2 => exact bn HB); rintro e w6 ⟨aa, rfl, B, hi, hb, hk⟩; refine ⟨_, rfl, ?_⟩; replace b := kb hk b A; have D := am (Kd.R_lower B (below_size (bn HB))); replace HB := am hb; replace P := am hi; (try clear hb hk hi B); have ab := n2 A T; have ad := c2 b; obtain ⟨U, W, X⟩ := Kd.R_slice D.out; subst X))
 refine bodyPost_ret (results_ctt rfl _ _ O 31 #[.int .i64 x, .slice U y.length W] (0, 0) _ rfl (bkn b) Try.underlying31 rfl (by kernel_rfl)) rfl ?_; exact ⟨_, er_, Kd.R_mono (onR D) (fun _ hk => trivial), bn HB⟩

end Go.Proofs.Ythmddmobfkfgeaa.F
