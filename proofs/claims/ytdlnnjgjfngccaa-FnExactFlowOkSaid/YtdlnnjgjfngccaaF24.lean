-- By oprint.py.
import Derived.Test.YtdlnnjgjfngccaaF0
import Derived.Test.YtdlnnjgjfngccaaF25
namespace Go.Proofs.Ytdlnnjgjfngccaa.F
open Go.RowKit Go.Proofs.YtdlnnjgjfngccaaW.PrintWords Go.Proofs.YtdlnnjgjfngccaaW.PrintLast Go.Proofs.YtdlnnjgjfngccaaW.PrintMore
attribute [local go_sem] max2_int min2_int max_two min_two max_three min_three max_four min_four
set_option linter.unusedVariables false
set_option linter.unusedSimpArgs false

/-! ### impl_tie: function 112 -/
def impl_tie.f (a0 : Int) (a1 : Int) : Option (Int × Int) := some (mn a0 a1, mx a0 a1)
set_option maxHeartbeats 8000000 in
set_option maxRecDepth 100000 in
theorem impl_tie.calls (a : Int) (b : Int) (c : Int) (d : Int) (w : World) (h : impl_tie.f a b = some (c, d)) :
  Calls Try.prog 112 #[.int .i64 a, .int .i64 b] w fun e w' => e = .returned (.agg #[.int .i64 c, .int .i64 d]) ∧ Below w.heap.size w w' := by
 have o := Try.underlying73; have HB := am (Below.refl w.heap.size w)
 have H : (some (mn a b, mx a b)) = some (c, d) := h
 clear h; obtain ⟨g, i⟩ : ∃ j_ : Int, (mn a b) = j_ := ⟨_, rfl⟩; replace H : (some (g, mx a b)) = some (c, d) := by first | (rw [i] at H; exact H) | (simp only [i] at H ⊢; exact H)
 have p : (if b < a then b else a) = g := i; obtain ⟨l, j⟩ : ∃ j_ : Int, (mx a b) = j_ := ⟨_, rfl⟩; replace H : (some (g, l)) = some (c, d) := by first | (rw [j] at H; exact H) | (simp only [j] at H ⊢; exact H)
 have q : (if a < b then b else a) = l := j; simp only [Option.some.injEq, Prod.mk.injEq] at H; obtain ⟨rfl, rfl⟩ := H; go_enter Try.func112, Try.ntmps112
 go_wp2_with (first | ((with_reducible refine gate_dst (N := 4) rfl ?_); refine bx_ 4 #[.int .i64 0, .int .i64 0] 73 HB ?_; clear HB; intro n hg w5 hb m s HB; clear hb hg; have t := c2 m))
 refine bodyPost_ret (results_cell_row rfl _ _ n 73 #[.int .i64 g, .int .i64 l] (0, 0) _ rfl (bkn m) Try.underlying73 rfl (by kernel_rfl)) rfl ?_; exact ⟨by first | rfl | (simp [errW_none, errW_some] <;> rfl) | (simp only [← i, ← j]; first | rfl | (simp [errW_none, errW_some] <;> rfl)) | (simp [*, errW_none, errW_some] <;> rfl), bn HB⟩

/-! ### impl_Net_has: function 100 -/
def impl_Net_has.f (k : Nat) (a0_0 : Int) (l0_1 : List (S73)) (a1 : Int) (a2 : Int) : Option (Bool) := (impl_tie.f a1 a2).bind fun bt284 => ((slices_Contains_impl_Tie_impl_Tie.f k l0_1 bt284.1 bt284.2).bind fun t286 => (some t286))
theorem impl_Net_has.mono : ∀ a b c d k, LeO (impl_Net_has.f k a b c d) (impl_Net_has.f (k + 1) a b c d) := by
 intro a b c d k; unfold impl_Net_has.f; have m0_ := @slices_Contains_impl_Tie_impl_Tie.mono; exact mo_
set_option maxHeartbeats 8000000 in
set_option maxRecDepth 100000 in
theorem impl_Net_has.calls (k : Nat) (m : Int) (g : Option Addr) (j : Nat) (b : List (S73)) (c : Int) (d : Int) (r : Bool) (w : World) (q : Kd.C k73 w g b.length b) (s : b.length ≤ j) (h : impl_Net_has.f k m b c d = some r) :
  Calls Try.prog 100 #[.agg #[.int .i64 m, .slice g b.length j], .int .i64 c, .int .i64 d] w fun e w' => e = .returned (.bool r) ∧ Below w.heap.size w w' := by
 have B := Try.underlying34; have u := am q; have x := am s; clear q s; have HB := am (Below.refl w.heap.size w)
 have H : ((impl_tie.f c d).bind fun t => ((slices_Contains_impl_Tie_impl_Tie.f k b t.1 t.2).bind fun n => (some n))) = some r := h
 clear h; obtain ⟨⟨o, p⟩, y, H⟩ := bi_ H; (try dsimp only at H); obtain ⟨n, z, H⟩ := bi_ H; obtain rfl := Option.some.inj H; go_enter Try.func100, Try.ntmps100
 try go_wp2_with (first | ((with_reducible refine gate_dst (N := 3) rfl ?_); refine bx_ 3 #[.int .i64 m, .slice g b.length j] 34 HB ?_; clear HB; intro D hg A hb a E HB; clear hb hg))
 replace a := dB a; replace HB := dL HB; refine s2_ 7 [] (bq a 0) (bq a 1) (fun l => ?_); generalize A.drew = w7 at a HB l ⊢; refine pure_ (i := 0) (N := some 7) (v := ?_) (a' := ?_) #[true, false, false, false, false, false, false] rfl rfl (by kernel_rfl) (fun _ _ _ h => h) (Or.inl ⟨by rfl, ?_⟩) ?_ ?_; rotate_left; (intro w'; go_simp; with_reducible rfl); rotate_left; (simp only [Act.put, List.setIfInBounds_toArray, List.set_cons_zero, List.set_cons_succ, i64_w, i32_w]; rfl); refine pure_ (i := 2) (N := some 9) (v := ?_) (a' := ?_) #[true, false, true, false, false, false, false] rfl rfl (by kernel_rfl) (fun _ _ _ h => h) (Or.inl ⟨by rfl, ?_⟩) ?_ ?_; rotate_left; (intro w'; go_simp; with_reducible rfl); rotate_left; (simp only [Act.put, List.setIfInBounds_toArray, List.set_cons_zero, List.set_cons_succ, i64_w, i32_w]; rfl); refine pure_ (i := 3) (N := some 10) (v := ?_) (a' := ?_) #[true, false, true, true, false, false, false] rfl rfl (by kernel_rfl) (fun _ _ _ h => h) (Or.inl ⟨by rfl, ?_⟩) ?_ ?_; rotate_left; (intro w'; go_simp; with_reducible rfl); rotate_left; (simp only [Act.put, List.setIfInBounds_toArray, List.set_cons_zero, List.set_cons_succ, i64_w, i32_w]; rfl); refine take_ (i := 1) (N := some 8) (v := ?_) (a' := ?_) #[true, true, true, true, false, false, false] rfl rfl (by kernel_rfl) (fun _ _ _ h => h) (Or.inl ⟨by rfl, ?_⟩) l ?_ ?_; rotate_left; (rintro w' ⟨s0, s1⟩; go_simp; with_reducible rfl); rotate_left; (simp only [Act.put, List.setIfInBounds_toArray, List.set_cons_zero, List.set_cons_succ, i64_w, i32_w]; rfl); refine one_ (i := 4) (N := some 11) #[true, true, true, true, true, false, false] rfl rfl (by kernel_rfl) (by decide) (fun K hK => ?_); refine gg_ Try.func112 #[.int .i64 c, .int .i64 d] ?_
 with_reducible refine (impl_tie.calls c d o p _ y.out).mono ?_
 rintro e w8 ⟨rfl, hb⟩; refine ⟨_, rfl, ?_⟩; replace a := bb a hb; replace HB := bs HB hb; (try clear hb); refine hK.out _ _ ⟨(bc a 0), (bc a 1)⟩ (fun l => ?_); clear hK K; refine nz_ 11 ?_; refine one_ (i := 5) (N := some 12) #[true, true, true, true, true, true, false] rfl rfl (by kernel_rfl) (by decide) (fun K hK => ?_); refine gg_ Try.func128 #[.slice g b.length j, .agg #[.int .i64 o, .int .i64 p]] ?_
 with_reducible refine (slices_Contains_impl_Tie_impl_Tie.calls k _ _ b o p n _ ?z_1 ?z_2 z.out).mono ?_
 (case z_1 => exact cb u HB); (case z_2 => exact x.out); rintro e w9 ⟨rfl, hb⟩; refine ⟨_, rfl, ?_⟩; replace a := bb a hb; replace HB := bs HB hb; (try clear hb); refine hK.out _ _ ⟨(bc a 0), (bc a 1)⟩ (fun l => ?_); clear hK K; refine nz_ 12 ?_; refine pure_ (i := 6) (N := some 6) (v := ?_) (a' := ?_) #[true, true, true, true, true, true, true] rfl rfl (by kernel_rfl) (fun _ _ _ h => h) (Or.inl ⟨by rfl, ?_⟩) ?_ ?_; rotate_left; (intro w'; go_simp; with_reducible rfl); rotate_left; (simp only [Act.put, List.setIfInBounds_toArray, List.set_cons_zero, List.set_cons_succ, i64_w, i32_w]; rfl); refine done_ (by kernel_rfl) ?_; try go_wp2
 go_ret
 exact ⟨er_, bn HB⟩

end Go.Proofs.Ytdlnnjgjfngccaa.F
