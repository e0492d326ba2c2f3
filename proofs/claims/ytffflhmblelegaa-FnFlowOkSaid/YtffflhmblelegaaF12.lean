-- By oprint.py.
import Derived.Test.YtffflhmblelegaaF0
namespace Go.Proofs.Ytffflhmblelegaa.F
open Go.RowKit Go.Proofs.YtffflhmblelegaaW.PrintWords Go.Proofs.YtffflhmblelegaaW.PrintLast Go.Proofs.YtffflhmblelegaaW.PrintMore
attribute [local go_sem] max2_int min2_int max_two min_two max_three min_three max_four min_four
set_option linter.unusedVariables false
set_option linter.unusedSimpArgs false

/-! ### spec_l1Copy: function 60 -/
def spec_l1Copy.f (a0_0 : Int) (l0_1 : List (S52)) : Option (Int × (List (S52))) := (some (([] : List (S52)) : List (S52))).bind fun y217 => (if y217.length + l0_1.length < 8796093022208 then (some (a0_0, (y217 ++ l0_1))) else (none))
def spec_l1Copy.T1 : Bool × List (List Nat × List Nat) := (true, [([], []), ([0], [0]), ([], []), ([], []), ([3], [3]), ([2, 4], [2, 4]), ([1, 5], [1, 5]), ([6, 5, 0, 1, 2, 3, 4, 5, 6], [6])])
def spec_l1Copy.B1 : List Nat := [0, 1, 0, 0, 8, 28, 63, 127]
theorem spec_l1Copy.tab1 : rtab .any (opsOf Try.f60 1) = spec_l1Copy.T1 := by kernel_rfl
theorem spec_l1Copy.bits1 : waitsOk spec_l1Copy.T1.2 spec_l1Copy.B1 = true := by kernel_rfl
set_option maxHeartbeats 8000000 in
set_option maxRecDepth 100000 in
theorem spec_l1Copy.calls (i : Int) (z : Option Addr) (A : Nat) (c : List (S52)) (m : Int) (n : List (S52)) (w : World) (E : Kd.C k52 w z c.length c) (G : c.length ≤ A) (h : spec_l1Copy.f i c = some (m, n)) :
  Calls Try.prog 60 #[.agg #[.int .i64 i, .slice z c.length A]] w fun e w' => ∃ I : Value, e = .returned (.agg #[.int .i64 m, I]) ∧ Kd.R k52 52 w' w.heap.size (fun _ => True) I n ∧ Below w.heap.size w w' := by
 have ai := Try.underlying25; have U := am E; have aj := am G; clear E G; have HB := am (Below.refl w.heap.size w)
 have H : ((some (([] : List (S52)) : List (S52))).bind fun j => (if j.length + c.length < 8796093022208 then (some (i, (j ++ c))) else (none))) = some (m, n) := h
 clear h; obtain ⟨j, B⟩ : ∃ y_ : List (S52), y_ = (([] : List (S52))) := ⟨_, rfl⟩; replace H : (if j.length + c.length < 8796093022208 then (some (i, (j ++ c))) else (none)) = some (m, n) := nh_ B H; have J := am B; clear B; obtain ⟨c2, H⟩ := ig_ H; have W := am c2; clear c2; obtain ⟨L, D⟩ : ∃ y_ : List (S52), y_ = (j ++ c) := ⟨_, rfl⟩; replace H : (some (i, L)) = some (m, n) := nh_ D H; have X := am D; clear D; simp only [Option.some.injEq, Prod.mk.injEq] at H; obtain ⟨rfl, rfl⟩ := H; go_enter Try.func60, Try.ntmps60
 try go_wp2_with (first | ((with_reducible refine gate_dst (N := 1) rfl ?_); refine bx_ 1 #[.int .i64 i, .slice z c.length A] 25 HB ?_; clear HB; intro ak hg w3 hb a al HB; clear hb hg) | ((with_reducible refine gate_dst (N := 2) rfl ?_); refine bx_ 2 #[.int .i64 0, .slice none 0 0] 25 HB ?_; clear HB; intro o hg Y hb b an HB; obtain ⟨l, M⟩ := nb_ hg a; replace a := bb a hb; clear hb hg))
 replace a := dB a; replace b := dB b; replace HB := dL HB; refine s2_ 8 [] (bq a 0) (bq a 1) (fun g => ?_); refine with_tabW spec_l1Copy.tab1 spec_l1Copy.bits1 (fun d O => ?_); generalize Y.drew = w5 at a b HB g ⊢; refine pz_ 0 d ?_; refine pz_ 3 d ?_; refine tz_ 1 d O g ?_; refine tz_ 4 d O g ?_; refine on_ 2 d (fun K hK => ?_); refine Kd.R_lit_step k52 _ 52 ?hg (N := 5) ?hd (xs := ([] : List (S52))) (inner := []) (ok := fun _ => True) (okp := fun _ => True) ?hr ?hp (fun _ hk => hk) trivial (Below.refl _ _) (Nat.le_refl _) (by simp) ?_; (case hd => rfl); (case hg => rfl); (case hr => first | (go_simp; done) | (go_simp; rfl)); (case hp => exact (Reps.none _ _)); intro Z w6 q hb aa ab; clear aa ab; (first | rw [← J.out] at q | (simp only [Int.reduceToNat] at q; rw [← J.out] at q)); have s := am (Kd.R_lower q (below_size (bn HB))); have t := bb a hb; have u := bb b hb; have x := bs HB hb; clear a b HB; have y := s; have a := t; have b := u; have HB := x; clear s t u x hb q; refine hK.out _ _ ⟨(bc a 0), (bc a 1)⟩ (fun g => ?_); clear hK K; refine nz_ 5 ?_; refine on_ 5 d (fun K hK => ?_); refine Kd.R_append_rows_step k52 (w0 := w) w.heap.size (by rfl) (.tmp 5) (.tmp 7) 23 52 (.agg #[(.int .i64 0), (.int .i64 0)]) 16 rfl Try.underlying23 info52 rfl (by decide) (by omega) Z j c _ _ _ (fun _ => True) (fun _ => False) rfl rfl ?aO ?aR (fun _ _ h => h) (fun _ h => h.elim) ?aF ?aB ?aS ?aL ?_; (case aR => repeat (first | exact (Kd.C_below U.out HB.out) | (with_reducible refine Kd.C_alloc ?_ _) | (with_reducible refine Kd.C_drewN ?_ _) | (with_reducible refine Kd.C_drew ?_))); (case aB => exact (bn HB)); (case aF => exact (fun _ _ => trivial)); (case aO => exact (onR y)); (case aS => exact (below_size (bn HB))); (case aL => have := W.out; omega); intro ap w8 ho hb hg ad; rw [← X.out] at ho; have s := bm (blk_grown (bkn a) hg (Kd.R_ne y.out a.out (by decide))); have t := bm (blk_grown (bkn b) hg (Kd.R_ne y.out b.out (by decide))); have u := am hb; have x := am ho; clear a b HB y; have a := s; have b := t; have HB := u; have P := x; clear s t u x ho hb hg ad; obtain ⟨ae, af, T⟩ := Kd.R_slice P.out; (first | subst T | (injection T with f1_ f2_ f3_; have ag := f1_.symm; have ah := f3_.symm; clear f1_ f2_ f3_; subst ag; subst ah)); refine hK.out _ _ ⟨(bc a 0), (bc a 1)⟩ (fun g => ?_); clear hK K; refine nz_ 8 ?_; refine pz_ 6 d ?_; refine on_ 7 d (fun K hK => ?_); have aq := bc b 0; have ar := blk_frozen b.out 0; have au := l.out; have av := M.out; have aw := bc b 1; have ax := blk_frozen b.out 1; have ay := l.out; have az := M.out; refine skip_ (w1 := ?_) (by rfl) rfl ?_ ?_
 rotate_left
 ·go_simp
  rfl
 refine hK.out _ _ ⟨((cell_far (p := ⟨o, _, none⟩) l.out _).trans (((cell_far (p := ⟨o, _, none⟩) l.out _).trans (g.1)))), ((cell_far (p := ⟨o, _, none⟩) l.out _).trans (((cell_far (p := ⟨o, _, none⟩) l.out _).trans (g.2))))⟩ (fun g => ?_); clear hK K; refine done_ (done_of d.out (by kernel_rfl)) ?_; try go_wp2
 refine bodyPost_ret (results_cell_row rfl _ _ o 25 #[.int .i64 i, .slice ae L.length af] (0, 0) _ rfl (bkn b) Try.underlying25 rfl (by kernel_rfl)) rfl ?_; exact ⟨_, er_, Kd.R_mono (onR P) (fun _ hk => trivial), bn HB⟩

end Go.Proofs.Ytffflhmblelegaa.F
