-- By oprint.py.
import Derived.Test.YthmddmobfkfgeaaF0
import Derived.Test.YthmddmobfkfgeaaF20
import Derived.Test.YthmddmobfkfgeaaF25
namespace Go.Proofs.Ythmddmobfkfgeaa.F
open Go.RowKit Go.Proofs.YthmddmobfkfgeaaW.PrintWords Go.Proofs.YthmddmobfkfgeaaW.PrintLast Go.Proofs.YthmddmobfkfgeaaW.PrintMore
attribute [local go_sem] max2_int min2_int max_two min_two max_three min_three max_four min_four
set_option linter.unusedVariables false
set_option linter.unusedSimpArgs false

/-! ### spec_DrawBlockCuts: function 47 -/
def spec_DrawBlockCuts.f (k : Nat) (l0 : List Int) : Option (Int × (List (S33))) := (spec_l6Open.f l0).bind fun bt838 => ((spec_l71Any.f k bt838.1 bt838.2).bind fun bt841 => (some (bt841.1, bt841.2.1)))
theorem spec_DrawBlockCuts.mono : ∀ a k, LeO (spec_DrawBlockCuts.f k a) (spec_DrawBlockCuts.f (k + 1) a) := by
 intro a k; unfold spec_DrawBlockCuts.f; have m0_ := @spec_l71Any.mono; exact mo_
set_option maxHeartbeats 8000000 in
set_option maxRecDepth 100000 in
theorem spec_DrawBlockCuts.calls (k : Nat) (d : Option Addr) (g : Nat) (a : List Int) (i : Int) (j : List (S33)) (w : World) (l : Kd.C (Kd.int .u8) w d a.length a) (m : a.length ≤ g) (h : spec_DrawBlockCuts.f k a = some (i, j)) :
  Calls Try.prog 47 #[.slice d a.length g] w fun e w' => ∃ n : Value, e = .returned (.agg #[.int .i64 i, n]) ∧ Kd.R k33 33 w' w.heap.size (fun _ => True) n j ∧ Below w.heap.size w w' := by
 have T := Try.underlying31; have B := am l; have D := am m; clear l m; have HB := am (Below.refl w.heap.size w)
 have H : ((spec_l6Open.f a).bind fun o => ((spec_l71Any.f k o.1 o.2).bind fun p => (some (p.1, p.2.1)))) = some (i, j) := h
 clear h; obtain ⟨⟨q, s⟩, E, H⟩ := bi_ H; (try dsimp only at H); obtain ⟨⟨t, u, G⟩, I, H⟩ := bi_ H; (try dsimp only at H); simp only [Option.some.injEq, Prod.mk.injEq] at H; obtain ⟨rfl, rfl⟩ := H; go_enter Try.func47, Try.ntmps47
 go_wp2_with (first | ((with_reducible refine gate_dst (N := 2) rfl ?_); refine bx_ 2 #[.int .i64 0, .slice none 0 0] 31 HB ?_; clear HB; intro J hg w4 hb b U HB; clear hb hg) | ((with_reducible refine gate_callee (f := 89) rfl ?_); refine gl_ (some 4) Try.func89 #[.slice d a.length g] ?_; (with_reducible refine (spec_l6Open.calls _ _ a q s w _ ?z_1 ?z_2 ?z_3 E.out).mono ?_); (case z_1 => exact bn HB); (case z_2 => exact B.out); (case z_3 => exact D.out); rintro e w5 ⟨x, rfl, hi, hb, c⟩; refine ⟨_, rfl, ?_⟩; replace HB := am hb; have K := am hi; have L := am (IsS115.ne_blk hi (blk_below (bkn b) c) (by decide)); have y := am (Ne.symm (IsS115.ne_blk hi (blk_below (bkn b) c) (by decide))); replace b := bm (blk_below (bkn b) c); (try clear hb c hi)) | ((with_reducible refine gate_callee (f := 90) rfl ?_); refine gl_ (some 5) Try.func90 #[.pointer (some ⟨x, 0, none⟩)] ?_; (with_reducible refine (spec_l71Any.calls k x q s t u G w _ ?z_1 ?z_2 I.out).mono ?_); (case z_1 => exact IsS115.now); (case z_2 => exact bn HB); rintro e w6 ⟨W, rfl, z, hi, hb, hk⟩; refine ⟨_, rfl, ?_⟩; replace b := kb hk b y; have A := am (Kd.R_lower z (below_size (bn HB))); replace HB := am hb; replace K := am hi; (try clear hb hk hi z); have X := n2 y L; have Y := c2 b; obtain ⟨M, O, P⟩ := Kd.R_slice A.out; subst P))
 refine bodyPost_ret (results_cell_row rfl _ _ J 31 #[.int .i64 t, .slice M u.length O] (0, 0) _ rfl (bkn b) Try.underlying31 rfl (by kernel_rfl)) rfl ?_; exact ⟨_, er_, Kd.R_mono (onR A) (fun _ hk => trivial), bn HB⟩

end Go.Proofs.Ythmddmobfkfgeaa.F
