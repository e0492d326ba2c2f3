-- By oprint.py.
import Derived.Test.YtlddkafpbhjpdaaF0
import Derived.Test.YtlddkafpbhjpdaaF11
import Derived.Test.YtlddkafpbhjpdaaF13
import Derived.Test.YtlddkafpbhjpdaaF14
import Derived.Test.YtlddkafpbhjpdaaF17
import Derived.Test.YtlddkafpbhjpdaaF9
namespace Go.Proofs.Ytlddkafpbhjpdaa.F
open Go.RowKit Go.Proofs.YtlddkafpbhjpdaaW.PrintWords Go.Proofs.YtlddkafpbhjpdaaW.PrintLast Go.Proofs.YtlddkafpbhjpdaaW.PrintMore
attribute [local go_sem] max2_int min2_int max_two min_two max_three min_three max_four min_four
set_option linter.unusedVariables false
set_option linter.unusedSimpArgs false

/-! ### impl_NetHas: function 50 -/
def impl_NetHas.f (k : Nat) (a0_0 : Int) (l0_1 : List (S44)) (a1 : Int) (a2 : Int) : Option (Bool) := (impl_NetOk.f k a0_0 l0_1).bind fun t652 => (if t652 = true then ((impl_Net_has.f k a0_0 l0_1 a1 a2).bind fun t653 => (some t653)) else (some false))
theorem impl_NetHas.mono : ∀ a b c d k, LeO (impl_NetHas.f k a b c d) (impl_NetHas.f (k + 1) a b c d) := by
 intro a b c d k; unfold impl_NetHas.f; have m0_ := @impl_NetOk.mono; have m1_ := @impl_Net_has.mono; exact mo_
set_option maxHeartbeats 8000000 in
set_option maxRecDepth 100000 in
theorem impl_NetHas.calls (k : Nat) (b : Int) (d : Option Addr) (g : Nat) (a : List (S44)) (i : Int) (j : Int) (r : Bool) (w : World) (p : Kd.C k44 w d a.length a) (q : a.length ≤ g) (h : impl_NetHas.f k b a i j = some r) :
  Calls Try.prog 50 #[.agg #[.int .i64 b, .slice d a.length g], .int .i64 i, .int .i64 j] w fun e w' => e = .returned (.bool r) ∧ Below w.heap.size w w' := by
 have z := Try.underlying25; have l := am p; have m := am q; clear p q; have HB := am (Below.refl w.heap.size w)
 have H : ((impl_NetOk.f k b a).bind fun n => (if n = true then ((impl_Net_has.f k b a i j).bind fun o => (some o)) else (some false))) = some r := h
 clear h; obtain ⟨n, s, H⟩ := bi_ H; by_cases t : n = true
 ·subst t; rw [if_pos rfl] at H; obtain ⟨o, u, H⟩ := bi_ H; obtain rfl := Option.some.inj H; go_enter Try.func50, Try.ntmps50
  go_wp2_with (first | ((with_reducible refine gate_dst (N := 3) rfl ?_); refine bx_ 3 #[.int .i64 b, .slice d a.length g] 25 HB ?_; clear HB; intro x hg w7 hb c y HB; clear hb hg; have A := c2 c) | ((with_reducible refine gate_callee (f := 31) rfl ?_); refine gl_ (some 8) Try.func31 #[.agg #[.int .i64 b, .slice d a.length g]] ?_; (with_reducible refine (impl_NetOk.calls k b _ _ a true _ ?z_1 ?z_2 s.out).mono ?_); (case z_1 => exact cb l HB); (case z_2 => exact m.out); rintro e w9 ⟨rfl, hb⟩; refine ⟨_, rfl, ?_⟩; replace c := bb c hb; replace HB := bs HB hb; (try clear hb); have B := c2 c) | (go_at_call 45; (with_reducible refine (impl_Net_has.calls k b _ _ a i j o _ ?z_1 ?z_2 u.out).mono ?_); (case z_1 => exact cb l HB); (case z_2 => exact m.out); rintro e w11 ⟨rfl, hb⟩; replace c := bb c hb; replace HB := bs HB hb; (try clear hb)))
  go_ret
  exact ⟨er_, bn HB⟩
 ·obtain rfl := nt_ t; rw [if_neg nf_] at H; obtain rfl := Option.some.inj H; go_enter Try.func50, Try.ntmps50
  go_wp2_with (first | ((with_reducible refine gate_dst (N := 3) rfl ?_); refine bx_ 3 #[.int .i64 b, .slice d a.length g] 25 HB ?_; clear HB; intro x hg w12 hb c y HB; clear hb hg; have D := c2 c) | ((with_reducible refine gate_callee (f := 31) rfl ?_); refine gl_ (some 8) Try.func31 #[.agg #[.int .i64 b, .slice d a.length g]] ?_; (with_reducible refine (impl_NetOk.calls k b _ _ a false _ ?z_1 ?z_2 s.out).mono ?_); (case z_1 => exact cb l HB); (case z_2 => exact m.out); rintro e w14 ⟨rfl, hb⟩; refine ⟨_, rfl, ?_⟩; replace c := bb c hb; replace HB := bs HB hb; (try clear hb)))
  go_ret
  exact ⟨er_, bn HB⟩

/-! ### impl_BridgeIs: function 21 -/
def impl_BridgeIs.f (k : Nat) (a0_0 : Int) (l0_1 : List (S44)) (a1 : Int) (a2 : Int) : Option (Bool) := (impl_NetHas.f k a0_0 l0_1 a1 a2).bind fun t655 => (if t655 = true then ((impl_Net_bridges.f k a0_0 l0_1).bind fun t656 => ((impl_tie.f a1 a2).bind fun bt659 => ((slices_Contains_impl_Tie_impl_Tie.f k t656 bt659.1 bt659.2).bind fun t661 => (some t661)))) else (some false))
theorem impl_BridgeIs.mono : ∀ a b c d k, LeO (impl_BridgeIs.f k a b c d) (impl_BridgeIs.f (k + 1) a b c d) := by
 intro a b c d k; unfold impl_BridgeIs.f; have m0_ := @impl_NetHas.mono; have m1_ := @impl_Net_bridges.mono; have m2_ := @slices_Contains_impl_Tie_impl_Tie.mono; exact mo_
set_option maxHeartbeats 8000000 in
set_option maxRecDepth 100000 in
theorem impl_BridgeIs.calls (k : Nat) (c : Int) (j : Option Addr) (l : Nat) (a : List (S44)) (d : Int) (g : Int) (r : Bool) (w : World) (s : Kd.C k44 w j a.length a) (t : a.length ≤ l) (h : impl_BridgeIs.f k c a d g = some r) :
  Calls Try.prog 21 #[.agg #[.int .i64 c, .slice j a.length l], .int .i64 d, .int .i64 g] w fun e w' => e = .returned (.bool r) ∧ Below w.heap.size w w' := by
 have L := Try.underlying25; have n := am s; have o := am t; clear s t; have HB := am (Below.refl w.heap.size w)
 have H : ((impl_NetHas.f k c a d g).bind fun p => (if p = true then ((impl_Net_bridges.f k c a).bind fun m => ((impl_tie.f d g).bind fun u => ((slices_Contains_impl_Tie_impl_Tie.f k m u.1 u.2).bind fun q => (some q)))) else (some false))) = some r := h
 clear h; obtain ⟨p, x, H⟩ := bi_ H; by_cases y : p = true
 ·subst y; rw [if_pos rfl] at H; obtain ⟨m, D, H⟩ := bi_ H; obtain ⟨⟨z, A⟩, E, H⟩ := bi_ H; (try dsimp only at H); obtain ⟨q, G, H⟩ := bi_ H; obtain rfl := Option.some.inj H; go_enter Try.func21, Try.ntmps21
  go_wp2_with (first | ((with_reducible refine gate_dst (N := 3) rfl ?_); refine bx_ 3 #[.int .i64 c, .slice j a.length l] 25 HB ?_; clear HB; intro I hg w9 hb b J HB; clear hb hg; have M := c2 b) | ((with_reducible refine gate_callee (f := 50) rfl ?_); refine gl_ (some 10) Try.func50 #[.agg #[.int .i64 c, .slice j a.length l], .int .i64 d, .int .i64 g] ?_; (with_reducible refine (impl_NetHas.calls k c _ _ a d g true _ ?z_1 ?z_2 x.out).mono ?_); (case z_1 => exact cb n HB); (case z_2 => exact o.out); rintro e w11 ⟨rfl, hb⟩; refine ⟨_, rfl, ?_⟩; replace b := bb b hb; replace HB := bs HB hb; (try clear hb); have O := c2 b) | (go_at_call 36; (with_reducible refine (impl_Net_bridges.calls k c _ _ a m _ ?z_1 ?z_2 D.out).mono ?_); (case z_1 => exact cb n HB); (case z_2 => exact o.out); rintro e w13 ⟨P, rfl, B, hb⟩; have i := am (Kd.R_lower B (below_size (bn HB))); replace b := bb b hb; replace HB := bs HB hb; (try clear hb B)) | (go_at_call 51; (with_reducible refine (impl_tie.calls d g z A _ E.out).mono ?_); rintro e w14 ⟨rfl, hb⟩; replace i := am (Kd.R_below (onR i) hb); replace b := bb b hb; replace HB := bs HB hb; (try clear hb); obtain ⟨T, U, K⟩ := Kd.R_slice i.out; subst K) | (go_at_call 37; (with_reducible refine (slices_Contains_impl_Tie_impl_Tie.calls k _ _ m z A q _ ?z_1 ?z_2 G.out).mono ?_); (case z_1 => exact (Kd.R_reads' (onR i)).2.2); (case z_2 => exact (Kd.R_reads' i.out).2.1); rintro e w16 ⟨rfl, hb⟩; replace i := am (Kd.R_below (onR i) hb); replace b := bb b hb; replace HB := bs HB hb; (try clear hb)))
  go_ret
  exact ⟨er_, bn HB⟩
 ·obtain rfl := nt_ y; rw [if_neg nf_] at H; obtain rfl := Option.some.inj H; go_enter Try.func21, Try.ntmps21
  go_wp2_with (first | ((with_reducible refine gate_dst (N := 3) rfl ?_); refine bx_ 3 #[.int .i64 c, .slice j a.length l] 25 HB ?_; clear HB; intro I hg w17 hb b J HB; clear hb hg; have W := c2 b) | ((with_reducible refine gate_callee (f := 50) rfl ?_); refine gl_ (some 10) Try.func50 #[.agg #[.int .i64 c, .slice j a.length l], .int .i64 d, .int .i64 g] ?_; (with_reducible refine (impl_NetHas.calls k c _ _ a d g false _ ?z_1 ?z_2 x.out).mono ?_); (case z_1 => exact cb n HB); (case z_2 => exact o.out); rintro e w19 ⟨rfl, hb⟩; refine ⟨_, rfl, ?_⟩; replace b := bb b hb; replace HB := bs HB hb; (try clear hb)))
  go_ret
  exact ⟨er_, bn HB⟩

/-! ### impl_NetCut: function 55 -/
def impl_NetCut.f (k : Nat) (a0_0 : Int) (l0_1 : List (S44)) (a1 : Int) (a2 : Int) : Option (Int × (List (S44)) × Bool) := (impl_NetHas.f k a0_0 l0_1 a1 a2).bind fun t702 => (if t702 = true then ((impl_tie.f a1 a2).bind fun bt703 => ((impl_Net_less.f k a0_0 l0_1 (([(⟨bt703.1, bt703.2⟩ : S44)] : List (S44)))).bind fun bt708 => (some (bt708.1, bt708.2, true)))) else (some (0, ([] : List (S44)), false)))
theorem impl_NetCut.mono : ∀ a b c d k, LeO (impl_NetCut.f k a b c d) (impl_NetCut.f (k + 1) a b c d) := by
 intro a b c d k; unfold impl_NetCut.f; have m0_ := @impl_NetHas.mono; have m1_ := @impl_Net_less.mono; exact mo_
def impl_NetCut.T3 : Bool × List (List Nat × List Nat) := (true, [([], []), ([], []), ([], []), ([1, 2], [1, 2]), ([3], [3]), ([0, 4, 3], [0, 4]), ([5, 5, 0, 1, 2, 3, 4, 5], [5]), ([6, 0, 1, 2, 3, 4, 5, 6], [])])
def impl_NetCut.B3 : List Nat := [0, 0, 0, 6, 14, 31, 63, 127]
theorem impl_NetCut.tab3 : rtab .any (opsOf Try.f55 3) = impl_NetCut.T3 := by kernel_rfl
theorem impl_NetCut.bits3 : waitsOk impl_NetCut.T3.2 impl_NetCut.B3 = true := by kernel_rfl
set_option maxHeartbeats 8000000 in
set_option maxRecDepth 100000 in
theorem impl_NetCut.calls (k : Nat) (d : Int) (n : Option Addr) (o : Nat) (c : List (S44)) (g : Int) (i : Int) (A : Int) (B : List (S44)) (D : Bool) (w : World) (U : Kd.C k44 w n c.length c) (W : c.length ≤ o) (h : impl_NetCut.f k d c g i = some (A, B, D)) :
  Calls Try.prog 55 #[.agg #[.int .i64 d, .slice n c.length o], .int .i64 g, .int .i64 i] w fun e w' => ∃ X : Value, e = .returned (.tuple #[.agg #[.int .i64 A, X], .bool D]) ∧ Kd.R k44 44 w' w.heap.size (fun _ => True) X B ∧ Below w.heap.size w w' := by
 have aA := Try.underlying25; have E := am U; have G := am W; clear U W; have HB := am (Below.refl w.heap.size w)
 have H : ((impl_NetHas.f k d c g i).bind fun I => (if I = true then ((impl_tie.f g i).bind fun Y => ((impl_Net_less.f k d c (([(⟨Y.1, Y.2⟩ : S44)] : List (S44)))).bind fun x => (some (x.1, x.2, true)))) else (some (0, ([] : List (S44)), false)))) = some (A, B, D) := h
 clear h; obtain ⟨I, Z, H⟩ := bi_ H; by_cases c5 : I = true
 ·subst c5; rw [if_pos rfl] at H; obtain ⟨⟨q, s⟩, A6, H⟩ := bi_ H; (try dsimp only at H); obtain ⟨J, L⟩ : ∃ y_ : List (S44), y_ = (([(⟨q, s⟩ : S44)] : List (S44))) := ⟨_, rfl⟩; replace H : ((impl_Net_less.f k d c J).bind fun x => (some (x.1, x.2, true))) = some (A, B, D) := nh_ L H; have aa := am L; clear L; obtain ⟨⟨ab, ad⟩, A7, H⟩ := bi_ H; (try dsimp only at H); simp only [Option.some.injEq, Prod.mk.injEq] at H; obtain ⟨rfl, rfl, rfl⟩ := H; go_enter Try.func55, Try.ntmps55
  try go_wp2_with (first | ((with_reducible refine gate_dst (N := 3) rfl ?_); refine bx_ 3 #[.int .i64 d, .slice n c.length o] 25 HB ?_; clear HB; intro al hg w8 hb a an HB; clear hb hg) | ((with_reducible refine gate_dst (N := 6) rfl ?_); refine bx_ 6 #[.int .i64 0, .slice none 0 0] 25 HB ?_; clear HB; intro t hg w9 hb b ap HB; obtain ⟨j, y⟩ := nb_ hg a; replace a := bb a hb; clear hb hg; have aB := n2 j y; have aC := c2 a) | ((with_reducible refine gate_callee (f := 50) rfl ?_); refine gl_ (some 11) Try.func50 #[.agg #[.int .i64 d, .slice n c.length o], .int .i64 g, .int .i64 i] ?_; (with_reducible refine (impl_NetHas.calls k d _ _ c g i true _ ?z_1 ?z_2 Z.out).mono ?_); (case z_1 => exact cb E HB); (case z_2 => exact G.out); rintro e aq ⟨rfl, hb⟩; refine ⟨_, rfl, ?_⟩; replace a := bb a hb; replace b := bb b hb; replace HB := bs HB hb; (try clear hb)))
  replace a := dB a; replace b := dB b; replace HB := dL HB; refine s2_ 8 [] (bq a 0) (bq a 1) (fun m => ?_); refine with_tabW impl_NetCut.tab3 impl_NetCut.bits3 (fun l ar => ?_); generalize aq.drew = w13 at a b HB m ⊢; refine pz_ 1 l ?_; refine pz_ 2 l ?_; refine tz_ 0 l ar m ?_; refine on_ 3 l (fun K hK => ?_); refine gg_ Try.func51 #[.int .i64 g, .int .i64 i] ?_
  with_reducible refine (impl_tie.calls g i q s _ A6.out).mono ?_
  rintro e w14 ⟨rfl, hb⟩; refine ⟨_, rfl, ?_⟩; replace a := bb a hb; replace b := bb b hb; replace HB := bs HB hb; (try clear hb); refine hK.out _ _ ⟨(bc a 0), (bc a 1)⟩ (fun m => ?_); clear hK K; refine nz_ 17 ?_; refine on_ 4 l (fun K hK => ?_); refine Kd.R_lit_step k44 _ 44 ?hg (N := 18) ?hd (xs := ([(⟨q, s⟩ : S44)] : List (S44))) (inner := [.int .i64 q, .int .i64 s]) (ok := fun _ => True) (okp := fun _ => True) ?hr ?hp (fun _ hk => hk) trivial (Below.refl _ _) (Nat.le_refl _) (by simp) ?_; (case hd => rfl); (case hg => rfl); (case hr => first | (go_simp; done) | (go_simp; rfl)); (case hp => exact (Reps.c2 (show Kd.M k44 _ _ _ (⟨q, s⟩ : S44) [.int .i64 q, .int .i64 s] from (k44_mkM _ _ _ (⟨q, s⟩ : S44) )) (Reps.none _ _))); intro aD w15 z hb au av; clear au av; (first | rw [← aa.out] at z | (simp only [Int.reduceToNat] at z; rw [← aa.out] at z)); have ae := am (Kd.R_lower z (below_size (bn HB))); have af := bb a hb; have ag := bb b hb; have ah := bs HB hb; clear a b HB; have u := ae; have a := af; have b := ag; have HB := ah; clear ae af ag ah hb z; obtain ⟨aw, ax, ai⟩ := Kd.R_slice u.out; (first | subst ai | (injection ai with f1_ f2_ f3_; have O := f1_.symm; have P := f3_.symm; clear f1_ f2_ f3_; subst O; subst P)); refine hK.out _ _ ⟨(bc a 0), (bc a 1)⟩ (fun m => ?_); clear hK K; refine nz_ 18 ?_; refine on_ 5 l (fun K hK => ?_); refine gg_ Try.func61 #[.agg #[.int .i64 d, .slice n c.length o], .slice aw J.length ax] ?_
  with_reducible refine (impl_Net_less.calls k d _ _ c _ _ J ab ad _ ?z_1 ?z_2 ?z_3 ?z_4 A7.out).mono ?_
  (case z_1 => exact cb E HB); (case z_2 => exact G.out); (case z_3 => exact (Kd.R_reads' (onR u)).2.2); (case z_4 => exact (Kd.R_reads' u.out).2.1); rintro e w18 ⟨aE, rfl, T, hb⟩; refine ⟨_, rfl, ?_⟩; have aj := am (Kd.R_lower (Kd.R_new' T (Kd.R_lt (onR u))) (below_size (bn HB))); replace u := am (Kd.R_elder' (onR u) (Kd.R_base T) hb); replace a := bb a hb; replace b := bb b hb; replace HB := bs HB hb; (try clear hb hk T); obtain ⟨ay, az, ak⟩ := Kd.R_slice aj.out; (first | subst ak | (injection ak with f1_ f2_ f3_; have O := f1_.symm; have P := f3_.symm; clear f1_ f2_ f3_; subst O; subst P)); refine hK.out _ _ ⟨(bc a 0), (bc a 1)⟩ (fun m => ?_); clear hK K; refine nz_ 19 ?_; refine on_ 6 l (fun K hK => ?_); have aF := bc b 0; have aG := blk_frozen b.out 0; have aH := j.out; have aI := y.out; have aJ := bc b 1; have aK := blk_frozen b.out 1; have aL := j.out; have aM := y.out; refine skip_ (w1 := ?_) (by rfl) rfl ?_ ?_
  rotate_left
  ·go_simp
   rfl
  refine hK.out _ _ ⟨((cell_far (p := ⟨t, _, none⟩) j.out _).trans (((cell_far (p := ⟨t, _, none⟩) j.out _).trans (m.1)))), ((cell_far (p := ⟨t, _, none⟩) j.out _).trans (((cell_far (p := ⟨t, _, none⟩) j.out _).trans (m.2))))⟩ (fun m => ?_); clear hK K; refine pz_ 7 l ?_; refine done_ (done_of l.out (by kernel_rfl)) ?_; try go_wp2
  refine bodyPost_ret (results_ct rfl _ _ t 25 #[.int .i64 ab, .slice ay ad.length az] (0, 0) _ rfl (bkn b) Try.underlying25 rfl (by kernel_rfl)) rfl ?_; exact ⟨_, er_, Kd.R_mono (onR aj) (fun _ hk => trivial), bn HB⟩
 ·obtain rfl := nt_ c5; rw [if_neg nf_] at H; simp only [Option.some.injEq, Prod.mk.injEq] at H; obtain ⟨rfl, rfl, rfl⟩ := H; go_enter Try.func55, Try.ntmps55
  go_wp2_with (first | ((with_reducible refine gate_dst (N := 3) rfl ?_); refine bx_ 3 #[.int .i64 d, .slice n c.length o] 25 HB ?_; clear HB; intro al hg w22 hb a an HB; clear hb hg) | ((with_reducible refine gate_dst (N := 6) rfl ?_); refine bx_ 6 #[.int .i64 0, .slice none 0 0] 25 HB ?_; clear HB; intro t hg w23 hb b ap HB; obtain ⟨j, y⟩ := nb_ hg a; replace a := bb a hb; clear hb hg; have aN := n2 j y; have aO := c2 a) | ((with_reducible refine gate_callee (f := 50) rfl ?_); refine gl_ (some 11) Try.func50 #[.agg #[.int .i64 d, .slice n c.length o], .int .i64 g, .int .i64 i] ?_; (with_reducible refine (impl_NetHas.calls k d _ _ c g i false _ ?z_1 ?z_2 Z.out).mono ?_); (case z_1 => exact cb E HB); (case z_2 => exact G.out); rintro e w26 ⟨rfl, hb⟩; refine ⟨_, rfl, ?_⟩; replace a := bb a hb; replace b := bb b hb; replace HB := bs HB hb; (try clear hb); have aP := c2 b))
  refine bodyPost_ret (results_ct rfl _ _ t 25 #[.int .i64 0, .slice none 0 0] (0, 0) _ rfl (bkn b) Try.underlying25 rfl (by kernel_rfl)) rfl ?_; exact ⟨_, er_, by first | exact Kd.R_nil _ _ _ _ _ | exact Kd.N_nil _ _ _ _ _ | exact Kd.V_nil _ _ _ _ _ | exact Kd.Q_nil _ _ _ _ _ | exact Kd.S_nil _ _ _ _ _, bn HB⟩

/-! ### impl_WayReach: function 56 -/
mutual
def impl_WayReach.j0 : Nat → Int → List Bool → Bool → Int → List (S44) → Option (List Bool)
 | 0, _, _, _, _, _ => none
 | k + 1, x1, x5, x17, x713000, x713001 => if x17 = true then (some x5) else ((impl_Net_parts.f k x713000 x713001).bind fun t718 => (impl_WayReach.l0 k x1 x5 t718 (t718.length : Int) 0))
def impl_WayReach.l0 : Nat → Int → List Bool → List Int → Int → Int → Option (List Bool)
 | 0, _, _, _, _, _ => none
 | k + 1, x1, x5, x6, x22, x23 => if x23 < x22 then (if 0 ≤ x23 then (if x23 < (x6.length : Int) then (if 0 ≤ x1 then (if x1 < (x6.length : Int) then (if x5.length < 140737488355328 then (impl_WayReach.l0 k x1 (x5 ++ [((rd x6 x23) == (rd x6 x1))]) x6 x22 (wrap64 (x23 + 1))) else (none)) else (none)) else (none)) else (none)) else (none)) else (some x5)
end
def impl_WayReach.f (k : Nat) (a0_0 : Int) (l0_1 : List (S44)) (a1 : Int) : Option (List Bool) := (some (([] : List Bool) : List Bool)).bind fun y713 => ((impl_NetOk.f k a0_0 l0_1).bind fun t716 => (if t716 = true then ((impl_Net_knot.f a0_0 l0_1 a1).bind fun t717 => (impl_WayReach.j0 k a1 y713 (!t717) a0_0 l0_1)) else (impl_WayReach.j0 k a1 y713 true a0_0 l0_1)))
theorem impl_WayReach.mono_l : ∀ k, (∀ a b c d e, LeO (impl_WayReach.j0 k a b c d e) (impl_WayReach.j0 (k + 1) a b c d e)) ∧ (∀ a b c d e, LeO (impl_WayReach.l0 k a b c d e) (impl_WayReach.l0 (k + 1) a b c d e))
 | 0 => ⟨fun _ _ _ _ _ r h => by simp [impl_WayReach.j0] at h, fun _ _ _ _ _ r h => by simp [impl_WayReach.l0] at h⟩
 | k + 1 => by
  obtain ⟨ih0, ih1⟩ := impl_WayReach.mono_l k; refine ⟨?_, ?_⟩
  ·intro a b c d e; unfold impl_WayReach.j0; have f := @impl_NetOk.mono; have g := @impl_Net_parts.mono; exact mo_
  ·intro a b c d e; unfold impl_WayReach.l0; have f := @impl_NetOk.mono; have g := @impl_Net_parts.mono; exact mo_
theorem impl_WayReach.mono : ∀ a b c k, LeO (impl_WayReach.f k a b c) (impl_WayReach.f (k + 1) a b c) := by
 intro a b c k; obtain ⟨ih0, ih1⟩ := impl_WayReach.mono_l k; unfold impl_WayReach.f; have m0_ := @impl_NetOk.mono; have m1_ := @impl_Net_parts.mono; exact mo_
def impl_WayReach.T8 : Bool × List (List Nat × List Nat) := (true, [([], []), ([], []), ([], []), ([1, 2], [1, 2]), ([3], [3]), ([], []), ([], []), ([5, 6], [5, 6]), ([7], [7]), ([4, 8], [4, 8]), ([9], [9]), ([0, 10], [0, 10]), ([11, 11, 0, 1, 2, 3, 4, 5, 6, 7, 8, 9, 10, 11], [0, 11])])
def impl_WayReach.B8 : List Nat := [0, 0, 0, 6, 14, 0, 0, 96, 224, 510, 1022, 2047, 4095]
theorem impl_WayReach.tab8 : rtab .any (opsOf Try.f56 8) = impl_WayReach.T8 := by kernel_rfl
theorem impl_WayReach.bits8 : waitsOk impl_WayReach.T8.2 impl_WayReach.B8 = true := by kernel_rfl
set_option maxHeartbeats 8000000 in
set_option maxRecDepth 100000 in
theorem impl_WayReach.calls (k : Nat) (c : Int) (o : Option Addr) (p : Nat) (b : List (S44)) (d : Int) (r : List Bool) (w : World) (W : Kd.C k44 w o b.length b) (X : b.length ≤ p) (h : impl_WayReach.f k c b d = some r) :
  Calls Try.prog 56 #[.agg #[.int .i64 c, .slice o b.length p], .int .i64 d] w fun e w' => ∃ Y : Value, e = .returned (Y) ∧ Kd.R Kd.bool 4 w' w.heap.size (fun _ => True) Y r ∧ Below w.heap.size w w' := by
 have aV := Try.underlying25; have A := am W; have B := am X; clear W X; have HB := am (Below.refl w.heap.size w)
 have H : ((some (([] : List Bool) : List Bool)).bind fun q => ((impl_NetOk.f k c b).bind fun x => (if x = true then ((impl_Net_knot.f c b d).bind fun t => (impl_WayReach.j0 k d q (!t) c b)) else (impl_WayReach.j0 k d q true c b)))) = some r := h
 clear h; obtain ⟨q, G⟩ : ∃ y_ : List Bool, y_ = (([] : List Bool)) := ⟨_, rfl⟩; replace H : ((impl_NetOk.f k c b).bind fun x => (if x = true then ((impl_Net_knot.f c b d).bind fun t => (impl_WayReach.j0 k d q (!t) c b)) else (impl_WayReach.j0 k d q true c b))) = some r := nh_ G H; have Z := am G; clear G; have I := am H; clear H; go_enter Try.func56, Try.ntmps56
 go_upto_region 2 with (first | ((with_reducible refine gate_dst (N := 2) rfl ?_); refine bx_ 2 #[.int .i64 c, .slice o b.length p] 25 HB ?_; clear HB; intro aa hg w4 hb a aW HB; clear hb hg) | ((with_reducible refine gate_dst (N := 8) rfl ?_); refine Kd.R_lit Kd.bool _ 4 ?hg (N := 8) ?hd (xs := ([] : List Bool)) (inner := []) (ok := fun _ => True) (okp := fun _ => True) ?hr ?hp (fun _ hk => hk) trivial (Below.refl _ _) (Nat.le_refl _) (by simp) ?_; (case hd => rfl); (case hg => rfl); (case hr => first | (go_simp; done) | (go_simp; rfl)); (case hp => exact (Reps.none _ _)); intro aw w5 y hb ax ay; clear ax ay; (first | rw [← Z.out] at y | (simp only [Int.reduceToNat] at y; rw [← Z.out] at y)); have s := am (Kd.R_lower y (below_size (bn HB))); replace a := bb a hb; replace HB := bs HB hb; clear hb y))
 (try simp only [Act.put, List.setIfInBounds_toArray, List.set_cons_zero, List.set_cons_succ])
 go_cut [17] (fun az wc => ∃ (kq : Nat) (D : Bool), az = .bool D ∧ Aside0 (impl_WayReach.j0 kq d q D c b = some r) ∧ Aside0 (kq ≤ k) ∧ Aside0 (Kd.R Kd.bool 4 wc w.heap.size (fun _ => True) aw q) ∧ Bk wc aa (.cells #[.int .i64 c, (.slice o b.length p)] 25 (0, 0)) ∧ Aside0 (Below w.heap.size w wc))
 case first =>
  have H := I.out; clear I; obtain ⟨x, A7, H⟩ := bi_ H; by_cases E : x = true
  ·subst E; rw [if_pos rfl] at H; obtain ⟨t, A9, H⟩ := bi_ H; have H' := am H; clear H; have ab := c2 a
   go_wp2_with (first | ((with_reducible refine gate_callee (f := 31) rfl ?_); refine gl_ (some 10) Try.func31 #[.agg #[.int .i64 c, .slice o b.length p]] ?_; (with_reducible refine (impl_NetOk.calls k c _ _ b true _ ?z_1 ?z_2 A7.out).mono ?_); (case z_1 => exact cb A HB); (case z_2 => exact B.out); rintro e w11 ⟨rfl, hb⟩; refine ⟨_, rfl, ?_⟩; replace s := am (Kd.R_below (onR s) hb); replace a := bb a hb; replace HB := bs HB hb; (try clear hb); have ad := c2 a) | (go_at_call 47; (with_reducible refine (impl_Net_knot.calls c _ _ b d t _ ?z_1 ?z_2 A9.out).mono ?_); (case z_1 => exact cb A HB); (case z_2 => exact B.out); rintro e w13 ⟨rfl, hb⟩; replace s := am (Kd.R_below (onR s) hb); replace a := bb a hb; replace HB := bs HB hb; (try clear hb)))
   go_meet
   case rel => exact ⟨_, (!t), rs_, H', ⟨by first | omega | exact Nat.le_refl _⟩, ⟨onR s⟩, ⟨bkn a⟩, ⟨bn HB⟩⟩
  ·obtain rfl := nt_ E; rw [if_neg nf_] at H; have H' := am H; clear H; have ae := c2 a
   go_wp2_with (first | ((with_reducible refine gate_callee (f := 31) rfl ?_); refine gl_ (some 10) Try.func31 #[.agg #[.int .i64 c, .slice o b.length p]] ?_; (with_reducible refine (impl_NetOk.calls k c _ _ b false _ ?z_1 ?z_2 A7.out).mono ?_); (case z_1 => exact cb A HB); (case z_2 => exact B.out); rintro e w15 ⟨rfl, hb⟩; refine ⟨_, rfl, ?_⟩; replace s := am (Kd.R_below (onR s) hb); replace a := bb a hb; replace HB := bs HB hb; (try clear hb)))
   go_meet
   case rel => exact ⟨_, (true), rs_, H', ⟨by first | omega | exact Nat.le_refl _⟩, ⟨onR s⟩, ⟨bkn a⟩, ⟨bn HB⟩⟩
 case rest =>
  clear I; (try clear E ab ad ae); obtain ⟨kq, D, rfl, HA, af, l, a, HB⟩ := hcut; cases kq with
  | zero => exact absurd HA.out (by simp [impl_WayReach.j0])
  | succ kj2 =>
   have H := HA.out; clear HA; simp only [impl_WayReach.j0] at H; by_cases J : D = true
   ·subst J; rw [if_pos rfl] at H; obtain rfl := Option.some.inj H; go_wp2
    go_ret
    exact ⟨_, er_, onR l, bn HB⟩
   ·obtain rfl := nt_ J; rw [if_neg nf_] at H; obtain ⟨g, aA, H⟩ := bi_ H; have H' := am H; clear H; have aC := c2 a
    go_wp2_with (first | ((with_reducible refine gate_callee (f := 67) rfl ?_); refine gl_ (some 20) Try.func67 #[.agg #[.int .i64 c, .slice o b.length p]] ?_; (with_reducible refine (impl_Net_parts.calls kj2 c _ _ b g _ ?z_1 ?z_2 aA.out).mono ?_); (case z_1 => exact cb A HB); (case z_2 => exact B.out); rintro e w19 ⟨aX, rfl, ag, hb⟩; refine ⟨_, rfl, ?_⟩; replace l := am (Kd.R_below (onR l) hb); have ah := am (Kd.R_lower ag (below_size (bn HB))); replace a := bb a hb; replace HB := bs HB hb; (try clear hb ag); obtain ⟨aD, aE, aG⟩ := Kd.R_slice ah.out; subst aG))
    go_loopg [5, 23] kj2 (fun kq v5 aH w' => ∃ (z : List Bool) (m : Int), aH = .int .i64 m ∧ Aside0 (impl_WayReach.l0 kq d z g (g.length : Int) m = some r) ∧ Aside0 (kq ≤ kj2) ∧ Aside0 (Kd.R Kd.bool 4 w' w.heap.size (fun _ => True) v5 z) ∧ Aside0 (Kd.R (Kd.int .i64) 3 w' w.heap.size (fun _ => True) (.slice aD g.length aE) g) ∧ Bk w' aa (.cells #[.int .i64 c, (.slice o b.length p)] 25 (0, 0)) ∧ Aside0 (Below w.heap.size w w'))
    case atStart => exact ⟨(q), (0), rs_, H', ⟨Nat.le_refl _⟩, ⟨onR l⟩, ⟨onR ah⟩, ⟨bkn a⟩, ⟨bn HB⟩⟩
    case round =>
     clear H'; (try clear E J ab ad ae aC); obtain ⟨z, m, rfl, HA, ai, l, n, a, HB⟩ := hrel; cases gk with
     | zero => exact absurd HA.out (by simp [impl_WayReach.l0])
     | succ k2 =>
      have H := HA.out; clear HA; simp only [impl_WayReach.l0] at H; by_cases u : m < (g.length : Int)
      ·rw [if_pos u] at H; have aI := decide_eq_true u; clear u; obtain ⟨aY, H⟩ := id_ H; obtain ⟨aZ, H⟩ := id_ H; obtain ⟨a0, H⟩ := id_ H; obtain ⟨a1, H⟩ := id_ H; obtain ⟨aj, H⟩ := ig_ H; have aJ := am aj; clear aj; obtain ⟨ak, L⟩ : ∃ y_ : List Bool, y_ = (z ++ [((rd g m) == (rd g d))]) := ⟨_, rfl⟩; replace H : (impl_WayReach.l0 k2 d ak g (g.length : Int) (wrap64 (m + 1))) = some r := nh_ L H; have aK := am L; clear L; have H' := am H; clear H; try go_wp2
       replace l := dR l; replace n := dR n; replace a := dB a; replace HB := dL HB; have M : 0 ≤ (m : Int) := oa; have O : m < (g.length : Int) := oa; obtain ⟨aM, aN, al⟩ := Kd.at_int (Kd.R_reads' n.out).2.2 m M O; cases aN; obtain ⟨M, O⟩ := e2_ M O; have P : 0 ≤ (d : Int) := oa; have T : d < (g.length : Int) := oa; obtain ⟨aQ, aR, an⟩ := Kd.at_int (Kd.R_reads' n.out).2.2 d P T; obtain rfl : aM = aQ := (by injection aR); obtain ⟨P, T⟩ := e2_ P T; refine s2_ 13 [10, 11] al an (fun U => ?_); refine with_tabW impl_WayReach.tab8 impl_WayReach.bits8 (fun j ap => ?_); generalize wr.drew = w27 at l n a HB al an U ⊢; refine pz_ 0 j ?_; refine pz_ 1 j ?_; refine pz_ 2 j ?_; refine pz_ 3 j ?_; refine pz_ 5 j ?_; refine pz_ 6 j ?_; refine pz_ 7 j ?_; refine tz_ 4 j ap U ?_; refine tz_ 8 j ap U ?_; refine pz_ 9 j ?_; refine last_ (i := 10) (N := some 36) #[true, true, true, true, true, true, true, true, true, true, true, false, false] rfl rfl (one_of j.out (by kernel_rfl)) (by decide) (fun K hK => ?_); refine value_ (w1 := ?_) (v := ?_) (by rfl) rfl ?_ ?_
       rotate_left 2
       ·go_simp
        constructor
        ·rfl
        ·rfl
       refine hK.out _ _ ?_; clear hK K; refine nz_ 36 ?_; refine last_ (i := 11) (N := some 37) #[true, true, true, true, true, true, true, true, true, true, true, true, false] rfl rfl (one_of j.out (by kernel_rfl)) (by decide) (fun K hK => ?_); refine Kd.R_append_step Kd.bool (w0 := w) w.heap.size (by rfl) (.tmp 26) (.tmp 36) 50 4 (.bool false) 1 rfl Try.underlying50 info4 rfl (by decide) (by omega) u5 z ((rd g m) == (rd g d)) [.bool ((rd g m) == (rd g d))] (fun _ => True) (fun _ => False) rfl rfl ?aP (fun _ hk => hk.elim) ?aF ?aO ?aB ?aS ?aL ?_; (case aP => exact rfl); (case aB => exact (bn HB)); (case aF => exact (fun _ _ => trivial)); (case aO => exact (onR l)); (case aS => exact (below_size (bn HB))); (case aL => have := aJ.out; omega); intro a2 w28 ho hb hg aT; rw [← aK.out] at ho; have aq := am (Kd.R_over' (onR n) (Kd.R_typed (onR l)) (by decide) hg); have ar := bm (blk_grown (bkn a) hg (Kd.R_ne l.out a.out (by decide))); have au := am hb; have av := am ho; clear n a HB l; have n := aq; have a := ar; have HB := au; have aU := av; clear aq ar au av ho hb hg aT; refine hK.out _ _ ?_; clear hK K; refine nz_ 37 ?_; refine pz_ 12 j ?_; refine done_ (done_of j.out (by kernel_rfl)) ?_; try go_wp2
       go_roundg k2
       case measure => have := af.out; have := ai.out; omega
       case rel => exact ⟨(ak), (wrap64 (m + 1)), rs_, H', ⟨by have := af.out; have := ai.out; omega⟩, ⟨onR aU⟩, ⟨onR n⟩, ⟨bkn a⟩, ⟨bn HB⟩⟩
      ·rw [if_neg u] at H; have aI := decide_eq_false u; clear u; obtain rfl := Option.some.inj H; go_wp2
       go_ret
       exact ⟨_, er_, onR l, bn HB⟩

/-! ### laws_loBeside: function 24 -/
def laws_loBeside.f (k : Nat) (a0_0 : Int) (l0_1 : List (S44)) (a1 : Int) (a2 : Int) : Option (Bool) := (impl_NetCut.f k a0_0 l0_1 a1 a2).bind fun bt727 => (if bt727.2.2 = true then ((impl_WayReach.f k bt727.1 bt727.2.1 a1).bind fun t733 => (if 0 ≤ a2 then (if a2 < (t733.length : Int) then (some (rdOf false t733 a2)) else (none)) else (none))) else (some false))
theorem laws_loBeside.mono : ∀ a b c d k, LeO (laws_loBeside.f k a b c d) (laws_loBeside.f (k + 1) a b c d) := by
 intro a b c d k; unfold laws_loBeside.f; have m0_ := @impl_NetCut.mono; have m1_ := @impl_WayReach.mono; exact mo_
set_option maxHeartbeats 8000000 in
set_option maxRecDepth 100000 in
theorem laws_loBeside.calls (k : Nat) (i : Int) (m : Option Addr) (o : Nat) (d : List (S44)) (j : Int) (b : Int) (r : Bool) (w : World) (B : Kd.C k44 w m d.length d) (D : d.length ≤ o) (h : laws_loBeside.f k i d j b = some r) :
  Calls Try.prog 24 #[.agg #[.int .i64 i, .slice m d.length o], .int .i64 j, .int .i64 b] w fun e w' => e = .returned (.bool r) ∧ Below w.heap.size w w' := by
 have ad := Try.underlying25; have E := am B; have G := am D; clear B D; have HB := am (Below.refl w.heap.size w)
 have H : ((impl_NetCut.f k i d j b).bind fun t => (if t.2.2 = true then ((impl_WayReach.f k t.1 t.2.1 j).bind fun p => (if 0 ≤ b then (if b < (p.length : Int) then (some (rdOf false p b)) else (none)) else (none))) else (some false))) = some r := h
 clear h; obtain ⟨⟨u, s, L⟩, I, H⟩ := bi_ H; (try dsimp only at H); by_cases J : L = true
 ·subst J; rw [if_pos rfl] at H; obtain ⟨p, M, H⟩ := bi_ H; obtain ⟨ae, H⟩ := id_ H; obtain ⟨af, H⟩ := id_ H; obtain rfl := Option.some.inj H; go_enter Try.func24, Try.ntmps24
  go_wp2_with (first | ((with_reducible refine gate_dst (N := 3) rfl ?_); refine bx_ 3 #[.int .i64 i, .slice m d.length o] 25 HB ?_; clear HB; intro O hg w9 hb a P HB; clear hb hg; have ag := c2 a) | ((with_reducible refine gate_callee (f := 55) rfl ?_); refine gl_ (some 13) Try.func55 #[.agg #[.int .i64 i, .slice m d.length o], .int .i64 j, .int .i64 b] ?_; (with_reducible refine (impl_NetCut.calls k i _ _ d j b u s true _ ?z_1 ?z_2 I.out).mono ?_); (case z_1 => exact cb E HB); (case z_2 => exact G.out); rintro e w11 ⟨T, rfl, l, hb⟩; refine ⟨_, rfl, ?_⟩; have g := am (Kd.R_lower l (below_size (bn HB))); replace a := bb a hb; replace HB := bs HB hb; (try clear hb l)) | ((with_reducible refine gate_dst (N := 7) rfl ?_); refine bx_ 7 #[.int .i64 0, .slice none 0 0] 25 HB ?_; clear HB; intro U hg w12 hb q W HB; replace g := am (Kd.R_below (onR g) hb); obtain ⟨x, y⟩ := nb_ hg a; replace a := bb a hb; clear hb hg; have ah := n2 y x; have ai := c2 q; obtain ⟨aj, X, Y⟩ := Kd.R_slice g.out; subst Y) | (go_at_call 56; (with_reducible refine (impl_WayReach.calls k u _ _ s j p _ ?z_1 ?z_2 M.out).mono ?_); (case z_1 => refine (Kd.R_reads' (e := 44) (base := w.heap.size) (ok := fun k_ => True) (n := s.length) (c := X) ?_).2.2; exact (onR g)); (case z_2 => exact (Kd.R_reads' g.out).2.1); rintro e w16 ⟨ak, rfl, l, hb⟩; replace g := am (Kd.R_below (onR g) hb); have K := am (Kd.R_lower l (below_size (bn HB))); replace a := bb a hb; replace q := bb q hb; replace HB := bs HB hb; (try clear hb l); obtain ⟨al, an, Z⟩ := Kd.R_slice K.out; subst Z; have z : 0 ≤ (b : Int) := oa; have A : b < (p.length : Int) := oa; obtain ⟨ap, aa, aq⟩ := Kd.at_bool (Kd.R_reads' K.out).2.2 b z A; cases aa; replace z := eq_true z; replace A := eq_true A))
  go_ret
  exact ⟨er_, bn HB⟩
 ·obtain rfl := nt_ J; rw [if_neg nf_] at H; obtain rfl := Option.some.inj H; go_enter Try.func24, Try.ntmps24
  go_wp2_with (first | ((with_reducible refine gate_dst (N := 3) rfl ?_); refine bx_ 3 #[.int .i64 i, .slice m d.length o] 25 HB ?_; clear HB; intro O hg w18 hb a P HB; clear hb hg; have ar := c2 a) | ((with_reducible refine gate_callee (f := 55) rfl ?_); refine gl_ (some 13) Try.func55 #[.agg #[.int .i64 i, .slice m d.length o], .int .i64 j, .int .i64 b] ?_; (with_reducible refine (impl_NetCut.calls k i _ _ d j b u s false _ ?z_1 ?z_2 I.out).mono ?_); (case z_1 => exact cb E HB); (case z_2 => exact G.out); rintro e w20 ⟨T, rfl, l, hb⟩; refine ⟨_, rfl, ?_⟩; have g := am (Kd.R_lower l (below_size (bn HB))); replace a := bb a hb; replace HB := bs HB hb; (try clear hb l)) | ((with_reducible refine gate_dst (N := 7) rfl ?_); refine bx_ 7 #[.int .i64 0, .slice none 0 0] 25 HB ?_; clear HB; intro U hg w21 hb q W HB; replace g := am (Kd.R_below (onR g) hb); obtain ⟨x, y⟩ := nb_ hg a; replace a := bb a hb; clear hb hg; have au := n2 y x; have av := c2 q; obtain ⟨aw, ax, ab⟩ := Kd.R_slice g.out; subst ab))
  go_ret
  exact ⟨er_, bn HB⟩

end Go.Proofs.Ytlddkafpbhjpdaa.F
