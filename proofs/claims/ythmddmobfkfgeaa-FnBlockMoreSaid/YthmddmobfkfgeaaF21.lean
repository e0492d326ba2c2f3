-- By oprint.py.
import Derived.Test.YthmddmobfkfgeaaF0
import Derived.Test.YthmddmobfkfgeaaF4
import Derived.Test.YthmddmobfkfgeaaF5
namespace Go.Proofs.Ythmddmobfkfgeaa.F
open Go.RowKit Go.Proofs.YthmddmobfkfgeaaW.PrintWords Go.Proofs.YthmddmobfkfgeaaW.PrintLast Go.Proofs.YthmddmobfkfgeaaW.PrintMore
attribute [local go_sem] max2_int min2_int max_two min_two max_three min_three max_four min_four
set_option linter.unusedVariables false
set_option linter.unusedSimpArgs false

/-! ### spec_NetHas: function 78 -/
def spec_NetHas.f (k : Nat) (a0_0 : Int) (l0_1 : List (S33)) (a1 : Int) (a2 : Int) : Option (Bool) := (spec_NetOk.f k a0_0 l0_1).bind fun t429 => (if t429 = true then ((spec_l1Has.f k a0_0 l0_1 a1 a2).bind fun t430 => (some t430)) else (some false))
theorem spec_NetHas.mono : ∀ a b c d k, LeO (spec_NetHas.f k a b c d) (spec_NetHas.f (k + 1) a b c d) := by
 intro a b c d k; unfold spec_NetHas.f; have m0_ := @spec_NetOk.mono; have m1_ := @spec_l1Has.mono; exact mo_
set_option maxHeartbeats 8000000 in
set_option maxRecDepth 100000 in
theorem spec_NetHas.calls (k : Nat) (b : Int) (d : Option Addr) (g : Nat) (a : List (S33)) (i : Int) (j : Int) (r : Bool) (w : World) (p : Kd.C k33 w d a.length a) (q : a.length ≤ g) (h : spec_NetHas.f k b a i j = some r) :
  Calls Try.prog 78 #[.agg #[.int .i64 b, .slice d a.length g], .int .i64 i, .int .i64 j] w fun e w' => e = .returned (.bool r) ∧ Below w.heap.size w w' := by
 have z := Try.underlying31; have l := am p; have m := am q; clear p q; have HB := am (Below.refl w.heap.size w)
 have H : ((spec_NetOk.f k b a).bind fun n => (if n = true then ((spec_l1Has.f k b a i j).bind fun o => (some o)) else (some false))) = some r := h
 clear h; obtain ⟨n, s, H⟩ := bi_ H; by_cases t : n = true
 ·subst t; rw [if_pos rfl] at H; obtain ⟨o, u, H⟩ := bi_ H; obtain rfl := Option.some.inj H; go_enter Try.func78, Try.ntmps78
  go_wp2_with (first | ((with_reducible refine gate_dst (N := 3) rfl ?_); refine bx_ 3 #[.int .i64 b, .slice d a.length g] 31 HB ?_; clear HB; intro x hg w7 hb c y HB; clear hb hg; have A := c2 c) | ((with_reducible refine gate_callee (f := 41) rfl ?_); refine gl_ (some 8) Try.func41 #[.agg #[.int .i64 b, .slice d a.length g]] ?_; (with_reducible refine (spec_NetOk.calls k b _ _ a true _ ?z_1 ?z_2 s.out).mono ?_); (case z_1 => exact cb l HB); (case z_2 => exact m.out); rintro e w9 ⟨rfl, hb⟩; refine ⟨_, rfl, ?_⟩; replace c := bb c hb; replace HB := bs HB hb; (try clear hb); have B := c2 c) | (go_at_call 124; (with_reducible refine (spec_l1Has.calls k b _ _ a i j o _ ?z_1 ?z_2 u.out).mono ?_); (case z_1 => exact cb l HB); (case z_2 => exact m.out); rintro e w11 ⟨rfl, hb⟩; replace c := bb c hb; replace HB := bs HB hb; (try clear hb)))
  go_ret
  exact ⟨er_, bn HB⟩
 ·obtain rfl := nt_ t; rw [if_neg nf_] at H; obtain rfl := Option.some.inj H; go_enter Try.func78, Try.ntmps78
  go_wp2_with (first | ((with_reducible refine gate_dst (N := 3) rfl ?_); refine bx_ 3 #[.int .i64 b, .slice d a.length g] 31 HB ?_; clear HB; intro x hg w12 hb c y HB; clear hb hg; have D := c2 c) | ((with_reducible refine gate_callee (f := 41) rfl ?_); refine gl_ (some 8) Try.func41 #[.agg #[.int .i64 b, .slice d a.length g]] ?_; (with_reducible refine (spec_NetOk.calls k b _ _ a false _ ?z_1 ?z_2 s.out).mono ?_); (case z_1 => exact cb l HB); (case z_2 => exact m.out); rintro e w14 ⟨rfl, hb⟩; refine ⟨_, rfl, ?_⟩; replace c := bb c hb; replace HB := bs HB hb; (try clear hb)))
  go_ret
  exact ⟨er_, bn HB⟩

/-! ### spec_l1Copy: function 150 -/
def spec_l1Copy.f (a0_0 : Int) (l0_1 : List (S33)) : Option (Int × (List (S33))) := (some (([] : List (S33)) : List (S33))).bind fun y492 => (if y492.length + l0_1.length < 8796093022208 then (some (a0_0, (y492 ++ l0_1))) else (none))
def spec_l1Copy.T1 : Bool × List (List Nat × List Nat) := (true, [([], []), ([0], [0]), ([], []), ([], []), ([3], [3]), ([2, 4], [2, 4]), ([1, 5], [1, 5]), ([6, 5, 0, 1, 2, 3, 4, 5, 6], [6])])
def spec_l1Copy.B1 : List Nat := [0, 1, 0, 0, 8, 28, 63, 127]
theorem spec_l1Copy.tab1 : rtab .any (opsOf Try.f150 1) = spec_l1Copy.T1 := by kernel_rfl
theorem spec_l1Copy.bits1 : waitsOk spec_l1Copy.T1.2 spec_l1Copy.B1 = true := by kernel_rfl
set_option maxHeartbeats 8000000 in
set_option maxRecDepth 100000 in
theorem spec_l1Copy.calls (i : Int) (z : Option Addr) (A : Nat) (c : List (S33)) (m : Int) (n : List (S33)) (w : World) (E : Kd.C k33 w z c.length c) (G : c.length ≤ A) (h : spec_l1Copy.f i c = some (m, n)) :
  Calls Try.prog 150 #[.agg #[.int .i64 i, .slice z c.length A]] w fun e w' => ∃ I : Value, e = .returned (.agg #[.int .i64 m, I]) ∧ Kd.R k33 33 w' w.heap.size (fun _ => True) I n ∧ Below w.heap.size w w' := by
 have ai := Try.underlying31; have U := am E; have aj := am G; clear E G; have HB := am (Below.refl w.heap.size w)
 have H : ((some (([] : List (S33)) : List (S33))).bind fun j => (if j.length + c.length < 8796093022208 then (some (i, (j ++ c))) else (none))) = some (m, n) := h
 clear h; obtain ⟨j, B⟩ : ∃ y_ : List (S33), y_ = (([] : List (S33))) := ⟨_, rfl⟩; replace H : (if j.length + c.length < 8796093022208 then (some (i, (j ++ c))) else (none)) = some (m, n) := nh_ B H; have J := am B; clear B; obtain ⟨c2, H⟩ := ig_ H; have W := am c2; clear c2; obtain ⟨L, D⟩ : ∃ y_ : List (S33), y_ = (j ++ c) := ⟨_, rfl⟩; replace H : (some (i, L)) = some (m, n) := nh_ D H; have X := am D; clear D; simp only [Option.some.injEq, Prod.mk.injEq] at H; obtain ⟨rfl, rfl⟩ := H; go_enter Try.func150, Try.ntmps150
 try go_wp2_with (first | ((with_reducible refine gate_dst (N := 1) rfl ?_); refine bx_ 1 #[.int .i64 i, .slice z c.length A] 31 HB ?_; clear HB; intro ak hg w3 hb a al HB; clear hb hg) | ((with_reducible refine gate_dst (N := 2) rfl ?_); refine bx_ 2 #[.int .i64 0, .slice none 0 0] 31 HB ?_; clear HB; intro o hg Y hb b an HB; obtain ⟨l, M⟩ := nb_ hg a; replace a := bb a hb; clear hb hg))
 replace a := dB a; replace b := dB b; replace HB := dL HB; refine s2_ 8 [] (bq a 0) (bq a 1) (fun g => ?_); refine with_tabW spec_l1Copy.tab1 spec_l1Copy.bits1 (fun d O => ?_); generalize Y.drew = w5 at a b HB g ⊢; refine pz_ 0 d ?_; refine pz_ 3 d ?_; refine tz_ 1 d O g ?_; refine tz_ 4 d O g ?_; refine on_ 2 d (fun K hK => ?_); refine Kd.R_lit_step k33 _ 33 ?hg (N := 5) ?hd (xs := ([] : List (S33))) (inner := []) (ok := fun _ => True) (okp := fun _ => True) ?hr ?hp (fun _ hk => hk) trivial (Below.refl _ _) (Nat.le_refl _) (by simp) ?_; (case hd => rfl); (case hg => rfl); (case hr => first | (go_simp; done) | (go_simp; rfl)); (case hp => exact (Reps.none _ _)); intro Z w6 q hb aa ab; clear aa ab; (first | rw [← J.out] at q | (simp only [Int.reduceToNat] at q; rw [← J.out] at q)); have s := am (Kd.R_lower q (below_size (bn HB))); have t := bb a hb; have u := bb b hb; have x := bs HB hb; clear a b HB; have y := s; have a := t; have b := u; have HB := x; clear s t u x hb q; refine hK.out _ _ ⟨(bc a 0), (bc a 1)⟩ (fun g => ?_); clear hK K; refine nz_ 5 ?_; refine on_ 5 d (fun K hK => ?_); refine Kd.R_append_rows_step k33 (w0 := w) w.heap.size (by rfl) (.tmp 5) (.tmp 7) 29 33 (.agg #[(.int .i64 0), (.int .i64 0)]) 16 rfl Try.underlying29 info33 rfl (by decide) (by omega) Z j c _ _ _ (fun _ => True) (fun _ => False) rfl rfl ?aO ?aR (fun _ _ h => h) (fun _ h => h.elim) ?aF ?aB ?aS ?aL ?_; (case aR => repeat (first | exact (Kd.C_below U.out HB.out) | (with_reducible refine Kd.C_alloc ?_ _) | (with_reducible refine Kd.C_drewN ?_ _) | (with_reducible refine Kd.C_drew ?_))); (case aB => exact (bn HB)); (case aF => exact (fun _ _ => trivial)); (case aO => exact (onR y)); (case aS => exact (below_size (bn HB))); (case aL => have := W.out; omega); intro ap w8 ho hb hg ad; rw [← X.out] at ho; have s := bm (blk_grown (bkn a) hg (Kd.R_ne y.out a.out (by decide))); have t := bm (blk_grown (bkn b) hg (Kd.R_ne y.out b.out (by decide))); have u := am hb; have x := am ho; clear a b HB y; have a := s; have b := t; have HB := u; have P := x; clear s t u x ho hb hg ad; obtain ⟨ae, af, T⟩ := Kd.R_slice P.out; (first | subst T | (injection T with f1_ f2_ f3_; have ag := f1_.symm; have ah := f3_.symm; clear f1_ f2_ f3_; subst ag; subst ah)); refine hK.out _ _ ⟨(bc a 0), (bc a 1)⟩ (fun g => ?_); clear hK K; refine nz_ 8 ?_; refine pz_ 6 d ?_; refine on_ 7 d (fun K hK => ?_); have aq := bc b 0; have ar := blk_frozen b.out 0; have au := l.out; have av := M.out; have aw := bc b 1; have ax := blk_frozen b.out 1; have ay := l.out; have az := M.out; refine skip_ (w1 := ?_) (by rfl) rfl ?_ ?_
 rotate_left
 ·go_simp
  rfl
 refine hK.out _ _ ⟨((cell_far (p := ⟨o, _, none⟩) l.out _).trans (((cell_far (p := ⟨o, _, none⟩) l.out _).trans (g.1)))), ((cell_far (p := ⟨o, _, none⟩) l.out _).trans (((cell_far (p := ⟨o, _, none⟩) l.out _).trans (g.2))))⟩ (fun g => ?_); clear hK K; refine done_ (done_of d.out (by kernel_rfl)) ?_; try go_wp2
 refine bodyPost_ret (results_cell_row rfl _ _ o 31 #[.int .i64 i, .slice ae L.length af] (0, 0) _ rfl (bkn b) Try.underlying31 rfl (by kernel_rfl)) rfl ?_; exact ⟨_, er_, Kd.R_mono (onR P) (fun _ hk => trivial), bn HB⟩

end Go.Proofs.Ythmddmobfkfgeaa.F
