-- By oprint.py.
import Derived.Test.YtffflhmblelegaaF0
import Derived.Test.YtffflhmblelegaaF18
import Derived.Test.YtffflhmblelegaaF35
import Derived.Test.YtffflhmblelegaaF4
namespace Go.Proofs.Ytffflhmblelegaa.F
open Go.RowKit Go.Proofs.YtffflhmblelegaaW.PrintWords Go.Proofs.YtffflhmblelegaaW.PrintLast Go.Proofs.YtffflhmblelegaaW.PrintMore
attribute [local go_sem] max2_int min2_int max_two min_two max_three min_three max_four min_four
set_option linter.unusedVariables false
set_option linter.unusedSimpArgs false
/-! ### impl_BlockSame: function 29 -/
def impl_BlockSame.f (k : Nat) (a0_0 : Int) (l0_1 : List (S52)) (a1_0 : Int) (a1_1 : Int) (a2_0 : Int) (a2_1 : Int) : Option (Bool) := (impl_NetOk.f k a0_0 l0_1).bind fun t902 => (if t902 = true then ((slices_Contains_impl_Tie_impl_Tie.f k l0_1 a1_0 a1_1).bind fun t903 => (if t903 = true then ((impl_Net_block.f k a0_0 l0_1 a1_0 a1_1).bind fun t904 => ((slices_Contains_impl_Tie_impl_Tie.f k t904 a2_0 a2_1).bind fun t907 => (some t907))) else (some false))) else (some false))
def impl_BlockSame.T1 : Bool × List (List Nat × List Nat) := (true, [([], []), ([0], [0]), ([1, 1], [1]), ([2], [2]), ([3, 2], [2, 3]), ([2], [2]), ([4, 5, 2, 2], [2, 4, 5]), ([2, 6], [2, 6]), ([7, 6], [7]), ([8], [8]), ([8], [8]), ([9, 10, 8, 8], [8, 9, 10]), ([8], [8]), ([11, 12, 11, 8], [8, 11, 12]), ([8, 13], [8, 13]), ([14, 13, 0, 1, 2, 3, 4, 5, 6, 7, 8, 9, 10, 11, 12, 13, 14], [14])])
def impl_BlockSame.B1 : List Nat := [0, 1, 3, 7, 15, 7, 63, 127, 255, 511, 511, 2047, 511, 8191, 16383, 32767]
theorem impl_BlockSame.tab1 : rtab .any (opsOf Try.f29 1) = impl_BlockSame.T1 := by kernel_rfl
theorem impl_BlockSame.bits1 : waitsOk impl_BlockSame.T1.2 impl_BlockSame.B1 = true := by kernel_rfl
set_option maxHeartbeats 8000000 in
set_option maxRecDepth 100000 in
theorem impl_BlockSame.calls (k : Nat) (j : Int) (o : Option Addr) (p : Nat) (g : List (S52)) (l : Int) (m : Int) (q : Int) (s : Int) (r : Bool) (w : World) (E : Kd.C k52 w o g.length g) (G : g.length ≤ p) (h : impl_BlockSame.f k j g l m q s = some r) :
  Calls Try.prog 29 #[.agg #[.int .i64 j, .slice o g.length p], .agg #[.int .i64 l, .int .i64 m], .agg #[.int .i64 q, .int .i64 s]] w fun e w' => e = .returned (.bool r) ∧ Below w.heap.size w w' := by
 have ap := Try.underlying25; have aq := Try.underlying52; have t := am E; have u := am G; clear E G; have HB := am (Below.refl w.heap.size w)
 have H : ((impl_NetOk.f k j g).bind fun z => (if z = true then ((slices_Contains_impl_Tie_impl_Tie.f k g l m).bind fun A => (if A = true then ((impl_Net_block.f k j g l m).bind fun x => ((slices_Contains_impl_Tie_impl_Tie.f k x q s).bind fun B => (some B))) else (some false))) else (some false))) = some r := h
 clear h; obtain ⟨z, D, H⟩ := bi_ H; by_cases I : z = true
 ·subst I; rw [if_pos rfl] at H; obtain ⟨A, J, H⟩ := bi_ H; by_cases L : A = true
  ·subst L; rw [if_pos rfl] at H; obtain ⟨x, A8, H⟩ := bi_ H; obtain ⟨B, A9, H⟩ := bi_ H; obtain rfl := Option.some.inj H; go_enter Try.func29, Try.ntmps29
   try go_wp2_with (first | ((with_reducible refine gate_dst (N := 3) rfl ?_); refine bx_ 3 #[.int .i64 j, .slice o g.length p] 25 HB ?_; clear HB; intro M hg w10 hb a O HB; clear hb hg) | ((with_reducible refine gate_dst (N := 4) rfl ?_); refine bx_ 4 #[.int .i64 l, .int .i64 m] 52 HB ?_; clear HB; intro P hg w11 hb c T HB; obtain ⟨U, W⟩ := nb_ hg a; replace a := bb a hb; clear hb hg) | ((with_reducible refine gate_dst (N := 5) rfl ?_); refine bx_ 5 #[.int .i64 q, .int .i64 s] 52 HB ?_; clear HB; intro X hg ag hb d Y HB; obtain ⟨Z, aa⟩ := nb_ hg a; replace a := bb a hb; obtain ⟨ab, ad⟩ := nb_ hg c; replace c := bb c hb; clear hb hg))
   replace a := dB a; replace c := dB c; replace d := dB d; replace HB := dL HB; refine s6_ 16 [] (bq a 0) (bq a 1) (bq c 0) (bq c 1) (bq d 0) (bq d 1) (fun i => ?_); refine with_tabW impl_BlockSame.tab1 impl_BlockSame.bits1 (fun b n => ?_); generalize ag.drew = w13 at a c d HB i ⊢; refine tz_ 0 b n i ?_; refine on_ 1 b (fun K hK => ?_); refine gg_ Try.func67 #[.agg #[.int .i64 j, .slice o g.length p]] ?_
   with_reducible refine (impl_NetOk.calls k j _ _ g true _ ?z_1 ?z_2 D.out).mono ?_
   (case z_1 => exact cb t HB); (case z_2 => exact u.out); rintro e w14 ⟨rfl, hb⟩; refine ⟨_, rfl, ?_⟩; replace a := bb a hb; replace c := bb c hb; replace d := bb d hb; replace HB := bs HB hb; (try clear hb); refine hK.out _ _ ⟨(bc a 0), (bc a 1), (bc c 0), (bc c 1), (bc d 0), (bc d 1)⟩ (fun i => ?_); clear hK K; refine nz_ 8 ?_; refine pz_ 2 b ?_; refine pz_ 3 b ?_; refine tz_ 4 b n i ?_; refine tz_ 5 b n i ?_; refine on_ 6 b (fun K hK => ?_); refine gg_ Try.func73 #[.slice o g.length p, .agg #[.int .i64 l, .int .i64 m]] ?_
   with_reducible refine (slices_Contains_impl_Tie_impl_Tie.calls k _ _ g l m true _ ?z_1 ?z_2 J.out).mono ?_
   (case z_1 => exact cb t HB); (case z_2 => exact u.out); rintro e w15 ⟨rfl, hb⟩; refine ⟨_, rfl, ?_⟩; replace a := bb a hb; replace c := bb c hb; replace d := bb d hb; replace HB := bs HB hb; (try clear hb); refine hK.out _ _ ⟨(bc a 0), (bc a 1), (bc c 0), (bc c 1), (bc d 0), (bc d 1)⟩ (fun i => ?_); clear hK K; refine nz_ 13 ?_; refine pz_ 7 b ?_; refine pz_ 8 b ?_; refine tz_ 9 b n i ?_; refine tz_ 10 b n i ?_; refine tz_ 12 b n i ?_; refine on_ 11 b (fun K hK => ?_); refine gg_ Try.func68 #[.agg #[.int .i64 j, .slice o g.length p], .agg #[.int .i64 l, .int .i64 m]] ?_
   with_reducible refine (impl_Net_block.calls k j _ _ g l m x _ ?z_1 ?z_2 A8.out).mono ?_
   (case z_1 => exact cb t HB); (case z_2 => exact u.out); rintro e w16 ⟨ar, rfl, ae, hb⟩; refine ⟨_, rfl, ?_⟩; have y := am (Kd.R_lower (Kd.R_newB (Kd.R_newB ae (bkn c)) (bkn d)) (below_size (bn HB))); replace a := bb a hb; replace c := bb c hb; replace d := bb d hb; replace HB := bs HB hb; (try clear hb ae); obtain ⟨ah, ai, af⟩ := Kd.R_slice y.out; (first | subst af | (injection af with f1_ f2_ f3_; have aj := f1_.symm; have ak := f3_.symm; clear f1_ f2_ f3_; subst aj; subst ak)); refine hK.out _ _ ⟨(bc a 0), (bc a 1), (bc c 0), (bc c 1), (bc d 0), (bc d 1)⟩ (fun i => ?_); clear hK K; refine nz_ 18 ?_; refine on_ 13 b (fun K hK => ?_); refine gg_ Try.func73 #[.slice ah x.length ai, .agg #[.int .i64 q, .int .i64 s]] ?_
   with_reducible refine (slices_Contains_impl_Tie_impl_Tie.calls k _ _ x q s B _ ?z_1 ?z_2 A9.out).mono ?_
   (case z_1 => exact (Kd.R_reads' (onR y)).2.2); (case z_2 => exact (Kd.R_reads' y.out).2.1); rintro e w18 ⟨rfl, hb⟩; refine ⟨_, rfl, ?_⟩; replace y := am (Kd.R_below (onR y) hb); replace a := bb a hb; replace c := bb c hb; replace d := bb d hb; replace HB := bs HB hb; (try clear hb); refine hK.out _ _ ⟨(bc a 0), (bc a 1), (bc c 0), (bc c 1), (bc d 0), (bc d 1)⟩ (fun i => ?_); clear hK K; refine nz_ 20 ?_; refine pz_ 14 b ?_; refine pz_ 15 b ?_; refine done_ (done_of b.out (by kernel_rfl)) ?_; try go_wp2
   go_ret
   exact ⟨er_, bn HB⟩
  ·obtain rfl := nt_ L; rw [if_neg nf_] at H; obtain rfl := Option.some.inj H; go_enter Try.func29, Try.ntmps29
   try go_wp2_with (first | ((with_reducible refine gate_dst (N := 3) rfl ?_); refine bx_ 3 #[.int .i64 j, .slice o g.length p] 25 HB ?_; clear HB; intro M hg w19 hb a O HB; clear hb hg) | ((with_reducible refine gate_dst (N := 4) rfl ?_); refine bx_ 4 #[.int .i64 l, .int .i64 m] 52 HB ?_; clear HB; intro P hg w20 hb c T HB; obtain ⟨U, W⟩ := nb_ hg a; replace a := bb a hb; clear hb hg) | ((with_reducible refine gate_dst (N := 5) rfl ?_); refine bx_ 5 #[.int .i64 q, .int .i64 s] 52 HB ?_; clear HB; intro X hg al hb d Y HB; obtain ⟨Z, aa⟩ := nb_ hg a; replace a := bb a hb; obtain ⟨ab, ad⟩ := nb_ hg c; replace c := bb c hb; clear hb hg))
   replace a := dB a; replace c := dB c; replace d := dB d; replace HB := dL HB; refine s4_ 16 [] (bq a 0) (bq a 1) (bq c 0) (bq c 1) (fun i => ?_); refine with_tabW impl_BlockSame.tab1 impl_BlockSame.bits1 (fun b n => ?_); generalize al.drew = w22 at a c d HB i ⊢; refine tz_ 0 b n i ?_; refine on_ 1 b (fun K hK => ?_); refine gg_ Try.func67 #[.agg #[.int .i64 j, .slice o g.length p]] ?_
   with_reducible refine (impl_NetOk.calls k j _ _ g true _ ?z_1 ?z_2 D.out).mono ?_
   (case z_1 => exact cb t HB); (case z_2 => exact u.out); rintro e w23 ⟨rfl, hb⟩; refine ⟨_, rfl, ?_⟩; replace a := bb a hb; replace c := bb c hb; replace d := bb d hb; replace HB := bs HB hb; (try clear hb); refine hK.out _ _ ⟨(bc a 0), (bc a 1), (bc c 0), (bc c 1)⟩ (fun i => ?_); clear hK K; refine nz_ 8 ?_; refine pz_ 2 b ?_; refine pz_ 3 b ?_; refine tz_ 4 b n i ?_; refine tz_ 5 b n i ?_; refine on_ 6 b (fun K hK => ?_); refine gg_ Try.func73 #[.slice o g.length p, .agg #[.int .i64 l, .int .i64 m]] ?_
   with_reducible refine (slices_Contains_impl_Tie_impl_Tie.calls k _ _ g l m false _ ?z_1 ?z_2 J.out).mono ?_
   (case z_1 => exact cb t HB); (case z_2 => exact u.out); rintro e w24 ⟨rfl, hb⟩; refine ⟨_, rfl, ?_⟩; replace a := bb a hb; replace c := bb c hb; replace d := bb d hb; replace HB := bs HB hb; (try clear hb); refine hK.out _ _ ⟨(bc a 0), (bc a 1), (bc c 0), (bc c 1)⟩ (fun i => ?_); clear hK K; refine nz_ 13 ?_; refine pz_ 7 b ?_; refine pz_ 8 b ?_; refine pu_ 9 b ?_; refine pu_ 10 b ?_; refine pu_ 11 b ?_; refine pu_ 12 b ?_; refine pu_ 13 b ?_; refine pz_ 14 b ?_; refine pz_ 15 b ?_; refine done_ (done_of b.out (by kernel_rfl)) ?_; try go_wp2
   go_ret
   exact ⟨er_, bn HB⟩
 ·obtain rfl := nt_ I; rw [if_neg nf_] at H; obtain rfl := Option.some.inj H; go_enter Try.func29, Try.ntmps29
  try go_wp2_with (first | ((with_reducible refine gate_dst (N := 3) rfl ?_); refine bx_ 3 #[.int .i64 j, .slice o g.length p] 25 HB ?_; clear HB; intro M hg w25 hb a O HB; clear hb hg) | ((with_reducible refine gate_dst (N := 4) rfl ?_); refine bx_ 4 #[.int .i64 l, .int .i64 m] 52 HB ?_; clear HB; intro P hg w26 hb c T HB; obtain ⟨U, W⟩ := nb_ hg a; replace a := bb a hb; clear hb hg) | ((with_reducible refine gate_dst (N := 5) rfl ?_); refine bx_ 5 #[.int .i64 q, .int .i64 s] 52 HB ?_; clear HB; intro X hg an hb d Y HB; obtain ⟨Z, aa⟩ := nb_ hg a; replace a := bb a hb; obtain ⟨ab, ad⟩ := nb_ hg c; replace c := bb c hb; clear hb hg))
  replace a := dB a; replace c := dB c; replace d := dB d; replace HB := dL HB; refine s2_ 16 [] (bq a 0) (bq a 1) (fun i => ?_); refine with_tabW impl_BlockSame.tab1 impl_BlockSame.bits1 (fun b n => ?_); generalize an.drew = w28 at a c d HB i ⊢; refine tz_ 0 b n i ?_; refine on_ 1 b (fun K hK => ?_); refine gg_ Try.func67 #[.agg #[.int .i64 j, .slice o g.length p]] ?_
  with_reducible refine (impl_NetOk.calls k j _ _ g false _ ?z_1 ?z_2 D.out).mono ?_
  (case z_1 => exact cb t HB); (case z_2 => exact u.out); rintro e w29 ⟨rfl, hb⟩; refine ⟨_, rfl, ?_⟩; replace a := bb a hb; replace c := bb c hb; replace d := bb d hb; replace HB := bs HB hb; (try clear hb); refine hK.out _ _ ⟨(bc a 0), (bc a 1)⟩ (fun i => ?_); clear hK K; refine nz_ 8 ?_; refine pz_ 2 b ?_; refine pu_ 3 b ?_; refine pu_ 4 b ?_; refine pu_ 5 b ?_; refine pu_ 6 b ?_; refine pz_ 7 b ?_; refine pz_ 8 b ?_; refine pu_ 9 b ?_; refine pu_ 10 b ?_; refine pu_ 11 b ?_; refine pu_ 12 b ?_; refine pu_ 13 b ?_; refine pz_ 14 b ?_; refine pz_ 15 b ?_; refine done_ (done_of b.out (by kernel_rfl)) ?_; try go_wp2
  go_ret
  exact ⟨er_, bn HB⟩
/-! ### laws_loTie: function 40 -/
def laws_loTie.f (a0 : Int) (a1 : Int) : Option (Int × Int) := if a0 < a1 then (some (a0, a1)) else (some (a1, a0))
set_option maxHeartbeats 8000000 in
set_option maxRecDepth 100000 in
theorem laws_loTie.calls (a : Int) (b : Int) (g : Int) (i : Int) (w : World) (h : laws_loTie.f a b = some (g, i)) :
  Calls Try.prog 40 #[.int .i64 a, .int .i64 b] w fun e w' => e = .returned (.agg #[.int .i64 g, .int .i64 i]) ∧ Below w.heap.size w w' := by
 have n := Try.underlying52; have HB := am (Below.refl w.heap.size w)
 have H : (if a < b then (some (a, b)) else (some (b, a))) = some (g, i) := h
 clear h; by_cases c : a < b
 ·rw [if_pos c] at H; have l := decide_eq_true c; clear c; simp only [Option.some.injEq, Prod.mk.injEq] at H; obtain ⟨rfl, rfl⟩ := H; go_enter Try.func40, Try.ntmps40
  go_wp2_with (first | ((with_reducible refine gate_dst (N := 4) rfl ?_); refine bx_ 4 #[.int .i64 0, .int .i64 0] 52 HB ?_; clear HB; intro j hg w4 hb d m HB; clear hb hg; have o := c2 d))
  refine bodyPost_ret (results_cell_row rfl _ _ j 52 #[.int .i64 a, .int .i64 b] (0, 0) _ rfl (bkn d) Try.underlying52 rfl (by kernel_rfl)) rfl ?_; exact ⟨er_, bn HB⟩
 ·rw [if_neg c] at H; have l := decide_eq_false c; clear c; simp only [Option.some.injEq, Prod.mk.injEq] at H; obtain ⟨rfl, rfl⟩ := H; go_enter Try.func40, Try.ntmps40
  go_wp2_with (first | ((with_reducible refine gate_dst (N := 4) rfl ?_); refine bx_ 4 #[.int .i64 0, .int .i64 0] 52 HB ?_; clear HB; intro j hg w6 hb d m HB; clear hb hg; have p := c2 d))
  refine bodyPost_ret (results_cell_row rfl _ _ j 52 #[.int .i64 b, .int .i64 a] (0, 0) _ rfl (bkn d) Try.underlying52 rfl (by kernel_rfl)) rfl ?_; exact ⟨er_, bn HB⟩
end Go.Proofs.Ytffflhmblelegaa.F
