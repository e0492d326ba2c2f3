-- By oprint.py.
import Derived.Test.YthmddmobfkfgeaaF0
import Derived.Test.YthmddmobfkfgeaaF1
import Derived.Test.YthmddmobfkfgeaaF5
namespace Go.Proofs.Ythmddmobfkfgeaa.F
open Go.RowKit Go.Proofs.YthmddmobfkfgeaaW.PrintWords Go.Proofs.YthmddmobfkfgeaaW.PrintLast Go.Proofs.YthmddmobfkfgeaaW.PrintMore
attribute [local go_sem] max2_int min2_int max_two min_two max_three min_three max_four min_four
set_option linter.unusedVariables false
set_option linter.unusedSimpArgs false

attribute [local go_sem high] eqA33
/-! ### impl_ascending: function 128 -/
def impl_ascending.l0 : Nat → List (S33) → Int → Option (Bool)
 | 0, _, _ => none
 | k + 1, x0, x3 => if x3 < (x0.length : Int) then (if 0 ≤ (wrap64 (x3 - 1)) then (if (wrap64 (x3 - 1)) < (x0.length : Int) then (if 0 ≤ x3 then ((impl_tieOrder.f k ((rd_T33 x0 (wrap64 (x3 - 1))).f0) ((rd_T33 x0 (wrap64 (x3 - 1))).f1) ((rd_T33 x0 x3).f0) ((rd_T33 x0 x3).f1)).bind fun t259 => (if t259 ≥ 0 then (some false) else (impl_ascending.l0 k x0 (wrap64 (x3 + 1))))) else (none)) else (none)) else (none)) else (some true)
def impl_ascending.f (k : Nat) (l0 : List (S33)) : Option (Bool) := impl_ascending.l0 k l0 1
theorem impl_ascending.mono_l : ∀ k, (∀ a b, LeO (impl_ascending.l0 k a b) (impl_ascending.l0 (k + 1) a b))
 | 0 => fun _ _ r h => by simp [impl_ascending.l0] at h
 | k + 1 => by
  have ih0 := impl_ascending.mono_l k
  ·intro a b; unfold impl_ascending.l0; have m0_ := @impl_tieOrder.mono; exact mo_
theorem impl_ascending.mono : ∀ a k, LeO (impl_ascending.f k a) (impl_ascending.f (k + 1) a) := by
 intro a k; have ih0 := impl_ascending.mono_l k; unfold impl_ascending.f; have m0_ := @impl_tieOrder.mono; exact mo_
def impl_ascending.T4 : Bool × List (List Nat × List Nat) := (true, [([], []), ([], []), ([1], [1]), ([0, 2], [0, 2]), ([3], [3]), ([], []), ([], []), ([5, 6], [5, 6]), ([7], [7]), ([4, 8], [4, 8]), ([9], [9])])
def impl_ascending.B4 : List Nat := [0, 0, 2, 7, 15, 0, 0, 96, 224, 511, 1023]
theorem impl_ascending.tab4 : rtab .any (opsOf Try.f128 4) = impl_ascending.T4 := by kernel_rfl
theorem impl_ascending.bits4 : waitsOk impl_ascending.T4.2 impl_ascending.B4 = true := by kernel_rfl
set_option maxHeartbeats 8000000 in
set_option maxRecDepth 100000 in
theorem impl_ascending.calls (k : Nat) (J : Option Addr) (L : Nat) (l0 : List (S33)) (r : Bool) (w : World) (M : Kd.C k33 w J l0.length l0) (O : l0.length ≤ L) (h : impl_ascending.f k l0 = some r) :
  Calls Try.prog 128 #[.slice J l0.length L] w fun e w' => e = .returned (.bool r) ∧ Below w.heap.size w w' := by
 have Y := Try.underlying33; have B := am M; have HC0 := am O; clear M O; have HB := am (Below.refl w.heap.size w)
 have H : (impl_ascending.l0 k l0 1) = some r := h
 clear h; have H' := am H; clear H; go_enter Try.func128, Try.ntmps128; go_wp2
 go_loopg [3] k (fun kq U w' => ∃ (a : Int), U = .int .i64 a ∧ Aside0 (impl_ascending.l0 kq l0 a = some r) ∧ Aside0 (kq ≤ k) ∧ Aside0 (Below w.heap.size w w'))
 case atStart => exact ⟨(1), rs_, H', ⟨Nat.le_refl _⟩, ⟨bn HB⟩⟩
 case round =>
  clear H'; obtain ⟨a, rfl, HA, P, HB⟩ := hrel; cases gk with
  | zero => exact absurd HA.out (by simp [impl_ascending.l0])
  | succ k1 =>
   have H := HA.out; clear HA; simp only [impl_ascending.l0] at H; by_cases c2 : a < (l0.length : Int)
   ·rw [if_pos c2] at H; have W := decide_eq_true c2; clear c2; obtain ⟨c, q⟩ : ∃ j_ : Int, (wrap64 (a - 1)) = j_ := ⟨_, rfl⟩; replace H : (if 0 ≤ (c) then (if (c) < (l0.length : Int) then (if 0 ≤ a then ((impl_tieOrder.f k1 ((rd_T33 l0 (c)).f0) ((rd_T33 l0 (c)).f1) ((rd_T33 l0 a).f0) ((rd_T33 l0 a).f1)).bind fun t => (if t ≥ 0 then (some false) else (impl_ascending.l0 k1 l0 (wrap64 (a + 1))))) else (none)) else (none)) else (none)) = some r := by first | (rw [q] at H; exact H) | (simp only [q] at H ⊢; exact H)
    have hji3w : (IntKind.i64.wrap (a - 1)) = c := (i64_w _).trans q; obtain ⟨Z, H⟩ := id_ H; obtain ⟨aa, H⟩ := id_ H; obtain ⟨ab, H⟩ := id_ H; obtain ⟨t, T, H⟩ := bi_ H; by_cases s : t ≥ 0
    ·rw [if_pos s] at H; have X := decide_eq_true s; clear s; obtain rfl := Option.some.inj H; try go_wp2
     replace HB := dL HB; have m : 0 ≤ ((c) : Int) := oa; have n : (c) < (l0.length : Int) := oa; obtain ⟨D, E, d, g⟩ := at_T33 B.out (c) m n; have u := g; have x := d; cases E; replace d := hc_ HB d; replace g := hc_ HB g; obtain ⟨m, n⟩ := e2_ m n; have o : 0 ≤ (a : Int) := oa; have p : a < (l0.length : Int) := oa; obtain ⟨G, I, i, j⟩ := at_T33 B.out a o p; have y := j; have z := i; obtain rfl : D = G := (by injection I); replace i := hc_ HB i; replace j := hc_ HB j; obtain ⟨o, p⟩ := e2_ o p; refine s4_ 11 [] (hb_ HB x) (hb_ HB u) (hb_ HB z) (hb_ HB y) (fun l => ?_); refine with_tabW impl_ascending.tab4 impl_ascending.bits4 (fun b A => ?_); generalize wr.drew = w9 at HB d g i j l ⊢; refine pz_ 0 b ?_; refine pz_ 1 b ?_; refine pz_ 2 b ?_; refine pz_ 3 b ?_; refine pz_ 5 b ?_; refine pz_ 6 b ?_; refine pz_ 7 b ?_; refine tz_ 4 b A l ?_; refine tz_ 8 b A l ?_; refine on_ 9 b (fun K hK => ?_); refine goes_ Try.func97 (by kernel_rfl) rfl #[.agg #[.int .i64 ((rd_T33 l0 (c)).f0), .int .i64 ((rd_T33 l0 (c)).f1)], .agg #[.int .i64 ((rd_T33 l0 a).f0), .int .i64 ((rd_T33 l0 a).f1)]] (by rfl) rfl rfl (by (try simp only [List.map_toArray, List.map_cons, List.map_nil]); first | done | (simp only [q]; rfl) | rfl | (simp only [List.length_drop, List.length_take]; rfl)) ?_
     with_reducible refine (impl_tieOrder.calls k1 ((rd_T33 l0 (c)).f0) ((rd_T33 l0 (c)).f1) ((rd_T33 l0 a).f0) ((rd_T33 l0 a).f1) t _ T.out).mono ?_
     rintro e w10 ⟨rfl, hb⟩; refine ⟨_, rfl, ?_⟩; replace HB := bs HB hb; (try clear hb); refine hK.out _ _ ⟨(hb_ HB x), (hb_ HB u), (hb_ HB z), (hb_ HB y)⟩ (fun l => ?_); clear hK K; refine nz_ 19 ?_; refine pz_ 10 b ?_; refine done_ (done_of b.out (by kernel_rfl)) ?_; try go_wp2
     go_ret
     exact ⟨by first | rfl | (simp [errW_none, errW_some] <;> rfl) | (simp only [← q]; first | rfl | (simp [errW_none, errW_some] <;> rfl)) | (simp [*, errW_none, errW_some] <;> rfl), bn HB⟩
    ·rw [if_neg s] at H; have X := decide_eq_false s; clear s; have H' := am H; clear H; try go_wp2
     replace HB := dL HB; have m : 0 ≤ ((c) : Int) := oa; have n : (c) < (l0.length : Int) := oa; obtain ⟨D, E, d, g⟩ := at_T33 B.out (c) m n; have u := g; have x := d; cases E; replace d := hc_ HB d; replace g := hc_ HB g; obtain ⟨m, n⟩ := e2_ m n; have o : 0 ≤ (a : Int) := oa; have p : a < (l0.length : Int) := oa; obtain ⟨G, I, i, j⟩ := at_T33 B.out a o p; have y := j; have z := i; obtain rfl : D = G := (by injection I); replace i := hc_ HB i; replace j := hc_ HB j; obtain ⟨o, p⟩ := e2_ o p; refine s4_ 11 [] (hb_ HB x) (hb_ HB u) (hb_ HB z) (hb_ HB y) (fun l => ?_); refine with_tabW impl_ascending.tab4 impl_ascending.bits4 (fun b A => ?_); generalize wr.drew = w11 at HB d g i j l ⊢; refine pz_ 0 b ?_; refine pz_ 1 b ?_; refine pz_ 2 b ?_; refine pz_ 3 b ?_; refine pz_ 5 b ?_; refine pz_ 6 b ?_; refine pz_ 7 b ?_; refine tz_ 4 b A l ?_; refine tz_ 8 b A l ?_; refine on_ 9 b (fun K hK => ?_); refine goes_ Try.func97 (by kernel_rfl) rfl #[.agg #[.int .i64 ((rd_T33 l0 (c)).f0), .int .i64 ((rd_T33 l0 (c)).f1)], .agg #[.int .i64 ((rd_T33 l0 a).f0), .int .i64 ((rd_T33 l0 a).f1)]] (by rfl) rfl rfl (by (try simp only [List.map_toArray, List.map_cons, List.map_nil]); first | done | (simp only [q]; rfl) | rfl | (simp only [List.length_drop, List.length_take]; rfl)) ?_
     with_reducible refine (impl_tieOrder.calls k1 ((rd_T33 l0 (c)).f0) ((rd_T33 l0 (c)).f1) ((rd_T33 l0 a).f0) ((rd_T33 l0 a).f1) t _ T.out).mono ?_
     rintro e w12 ⟨rfl, hb⟩; refine ⟨_, rfl, ?_⟩; replace HB := bs HB hb; (try clear hb); refine hK.out _ _ ⟨(hb_ HB x), (hb_ HB u), (hb_ HB z), (hb_ HB y)⟩ (fun l => ?_); clear hK K; refine nz_ 19 ?_; refine pz_ 10 b ?_; refine done_ (done_of b.out (by kernel_rfl)) ?_; try go_wp2
     go_roundg k1
     case measure => have := P.out; omega
     case rel => exact ⟨(wrap64 (a + 1)), rs_, H', ⟨by have := P.out; omega⟩, ⟨bn HB⟩⟩
   ·rw [if_neg c2] at H; have W := decide_eq_false c2; clear c2; obtain rfl := Option.some.inj H; go_wp2
    go_ret
    exact ⟨er_, bn HB⟩

/-! ### impl_NetOk: function 85 -/
mutual
def impl_NetOk.j0 : Nat → Bool → Int → List (S33) → Option (Bool)
 | 0, _, _, _ => none
 | k + 1, x12, x261000, x261001 => if x12 = true then (some false) else (impl_NetOk.l0 k x261001 (x261001.length : Int) 0 x261000 x261001)
def impl_NetOk.l0 : Nat → List (S33) → Int → Int → Int → List (S33) → Option (Bool)
 | 0, _, _, _, _, _ => none
 | k + 1, x14, x15, x16, x261000, x261001 => if x16 < x15 then (if 0 ≤ x16 then (if x16 < (x14.length : Int) then (if ((rd_T33 x14 x16).f0) < 0 then (some false) else (if ((rd_T33 x14 x16).f0) ≥ ((rd_T33 x14 x16).f1) then (some false) else (if ((rd_T33 x14 x16).f1) ≥ x261000 then (some false) else (impl_NetOk.l0 k x14 x15 (wrap64 (x16 + 1)) x261000 x261001)))) else (none)) else (none)) else ((impl_ascending.f k x261001).bind fun t263 => (some t263))
end
def impl_NetOk.f (k : Nat) (a0_0 : Int) (l0_1 : List (S33)) : Option (Bool) := if a0_0 < 0 then (impl_NetOk.j0 k true a0_0 l0_1) else (impl_NetOk.j0 k (decide (a0_0 > 8)) a0_0 l0_1)
theorem impl_NetOk.mono_l : ∀ k, (∀ a b c, LeO (impl_NetOk.j0 k a b c) (impl_NetOk.j0 (k + 1) a b c)) ∧ (∀ a b c d e, LeO (impl_NetOk.l0 k a b c d e) (impl_NetOk.l0 (k + 1) a b c d e))
 | 0 => ⟨fun _ _ _ r h => by simp [impl_NetOk.j0] at h, fun _ _ _ _ _ r h => by simp [impl_NetOk.l0] at h⟩
 | k + 1 => by
  obtain ⟨ih0, ih1⟩ := impl_NetOk.mono_l k; refine ⟨?_, ?_⟩
  ·intro a b c; unfold impl_NetOk.j0; have f := @impl_ascending.mono; exact mo_
  ·intro a b c d e; unfold impl_NetOk.l0; have f := @impl_ascending.mono; exact mo_
theorem impl_NetOk.mono : ∀ a b k, LeO (impl_NetOk.f k a b) (impl_NetOk.f (k + 1) a b) := by
 intro a b k; obtain ⟨ih0, ih1⟩ := impl_NetOk.mono_l k; unfold impl_NetOk.f; have m0_ := @impl_ascending.mono; exact mo_
set_option maxHeartbeats 8000000 in
set_option maxRecDepth 100000 in
theorem impl_NetOk.calls (k : Nat) (i : Int) (t : Option Addr) (u : Nat) (b : List (S33)) (r : Bool) (w : World) (L : Kd.C k33 w t b.length b) (M : b.length ≤ u) (h : impl_NetOk.f k i b = some r) :
  Calls Try.prog 85 #[.agg #[.int .i64 i, .slice t b.length u]] w fun e w' => e = .returned (.bool r) ∧ Below w.heap.size w w' := by
 have ai := Try.underlying31; have aj := Try.underlying33; have B := am L; have X := am M; clear L M; have HB := am (Below.refl w.heap.size w)
 have H : (if i < 0 then (impl_NetOk.j0 k true i b) else (impl_NetOk.j0 k (decide (i > 8)) i b)) = some r := h
 clear h; have E := am H; clear H; go_enter Try.func85, Try.ntmps85
 go_upto_region 1 with (first | ((with_reducible refine gate_dst (N := 1) rfl ?_); refine bx_ 1 #[.int .i64 i, .slice t b.length u] 31 HB ?_; clear HB; intro O hg w3 hb a ak HB; clear hb hg))
 (try simp only [Act.put, List.setIfInBounds_toArray, List.set_cons_zero, List.set_cons_succ])
 go_cut [12] (fun Y wc => ∃ (kq : Nat) (D : Bool), Y = .bool D ∧ Aside0 (impl_NetOk.j0 kq D i b = some r) ∧ Aside0 (kq ≤ k) ∧ Bk wc O (.cells #[.int .i64 i, (.slice t b.length u)] 31 (0, 0)) ∧ Aside0 (Below w.heap.size w wc))
 case first =>
  have H := E.out; clear E; by_cases m : i < 0
  ·rw [if_pos m] at H; have n := decide_eq_true m; clear m; (first | rw [n] | (simp only [i64_w, i32_w]; rw [n]) | skip); have H' := am H; clear H; have P := c2 a; go_wp2
   go_meet
   case rel => exact ⟨_, (true), rs_, H', ⟨by first | omega | exact Nat.le_refl _⟩, ⟨bkn a⟩, ⟨bn HB⟩⟩
  ·rw [if_neg m] at H; have n := decide_eq_false m; clear m; (first | rw [n] | (simp only [i64_w, i32_w]; rw [n]) | skip); have H' := am H; clear H; have T := c2 a; go_wp2
   go_meet
   case rel => exact ⟨_, (decide (i > 8)), rs_, H', ⟨by first | omega | exact Nat.le_refl _⟩, ⟨bkn a⟩, ⟨bn HB⟩⟩
 case rest =>
  clear E; (try clear m n P T); obtain ⟨kq, D, rfl, HA, U, a, HB⟩ := hcut; cases kq with
  | zero => exact absurd HA.out (by simp [impl_NetOk.j0])
  | succ kj1 =>
   have H := HA.out; clear HA; simp only [impl_NetOk.j0] at H; by_cases G : D = true
   ·subst G; rw [if_pos rfl] at H; obtain rfl := Option.some.inj H; go_wp2
    go_ret
    exact ⟨er_, bn HB⟩
   ·obtain rfl := nt_ G; rw [if_neg nf_] at H; have H' := am H; clear H; have Z := c2 a; go_wp2
    go_loopg [16] kj1 (fun kq aa w' => ∃ (c : Int), aa = .int .i64 c ∧ Aside0 (impl_NetOk.l0 kq b (b.length : Int) c i b = some r) ∧ Aside0 (kq ≤ kj1) ∧ Bk w' O (.cells #[.int .i64 i, (.slice t b.length u)] 31 (0, 0)) ∧ Aside0 (Below w.heap.size w w'))
    case atStart => exact ⟨(0), rs_, H', ⟨Nat.le_refl _⟩, ⟨bkn a⟩, ⟨bn HB⟩⟩
    case round =>
     clear H'; (try clear m n G P T Z); obtain ⟨c, rfl, HA, W, a, HB⟩ := hrel; cases gk with
     | zero => exact absurd HA.out (by simp [impl_NetOk.l0])
     | succ k2 =>
      have H := HA.out; clear HA; simp only [impl_NetOk.l0] at H; by_cases x : c < (b.length : Int)
      ·rw [if_pos x] at H; have ab := decide_eq_true x; clear x; obtain ⟨al, H⟩ := id_ H; obtain ⟨an, H⟩ := id_ H; by_cases y : ((rd_T33 b c).f0) < 0
       ·rw [if_pos y] at H; have ad := decide_eq_true y; clear y; obtain rfl := Option.some.inj H; have d : 0 ≤ (c : Int) := oa; have g : c < (b.length : Int) := oa; obtain ⟨I, o, j, l⟩ := at_T33 B.out c d g; cases o; replace j := hc_ HB j; replace l := hc_ HB l; obtain ⟨d, g⟩ := e2_ d g
        go_wp2_with (first | ((with_reducible refine gate_dst (N := 4) rfl ?_); refine bx_ 4 #[.int .i64 0, .int .i64 0] 33 HB ?_; clear HB; intro J hg w13 hb p K HB; obtain ⟨q, s⟩ := nb_ hg a; replace a := bb a hb; clear hb hg; have ap := n2 s q; have aq := c2 p))
        go_ret
        exact ⟨er_, bn HB⟩
       ·rw [if_neg y] at H; have ad := decide_eq_false y; clear y; by_cases z : ((rd_T33 b c).f0) ≥ ((rd_T33 b c).f1)
        ·rw [if_pos z] at H; have ae := decide_eq_true z; clear z; obtain rfl := Option.some.inj H; have d : 0 ≤ (c : Int) := oa; have g : c < (b.length : Int) := oa; obtain ⟨I, o, j, l⟩ := at_T33 B.out c d g; cases o; replace j := hc_ HB j; replace l := hc_ HB l; obtain ⟨d, g⟩ := e2_ d g
         go_wp2_with (first | ((with_reducible refine gate_dst (N := 4) rfl ?_); refine bx_ 4 #[.int .i64 0, .int .i64 0] 33 HB ?_; clear HB; intro J hg w17 hb p K HB; obtain ⟨q, s⟩ := nb_ hg a; replace a := bb a hb; clear hb hg; have ar := n2 s q; have au := c2 p))
         go_ret
         exact ⟨er_, bn HB⟩
        ·rw [if_neg z] at H; have ae := decide_eq_false z; clear z; by_cases A : ((rd_T33 b c).f1) ≥ i
         ·rw [if_pos A] at H; have af := decide_eq_true A; clear A; obtain rfl := Option.some.inj H; have d : 0 ≤ (c : Int) := oa; have g : c < (b.length : Int) := oa; obtain ⟨I, o, j, l⟩ := at_T33 B.out c d g; cases o; replace j := hc_ HB j; replace l := hc_ HB l; obtain ⟨d, g⟩ := e2_ d g
          go_wp2_with (first | ((with_reducible refine gate_dst (N := 4) rfl ?_); refine bx_ 4 #[.int .i64 0, .int .i64 0] 33 HB ?_; clear HB; intro J hg w21 hb p K HB; obtain ⟨q, s⟩ := nb_ hg a; replace a := bb a hb; clear hb hg; have av := n2 s q; have aw := c2 p; have ax := c2 a))
          go_ret
          exact ⟨er_, bn HB⟩
         ·rw [if_neg A] at H; have af := decide_eq_false A; clear A; have H' := am H; clear H; have d : 0 ≤ (c : Int) := oa; have g : c < (b.length : Int) := oa; obtain ⟨I, o, j, l⟩ := at_T33 B.out c d g; cases o; replace j := hc_ HB j; replace l := hc_ HB l; obtain ⟨d, g⟩ := e2_ d g
          go_wp2_with (first | ((with_reducible refine gate_dst (N := 4) rfl ?_); refine bx_ 4 #[.int .i64 0, .int .i64 0] 33 HB ?_; clear HB; intro J hg w25 hb p K HB; obtain ⟨q, s⟩ := nb_ hg a; replace a := bb a hb; clear hb hg; have ay := n2 s q; have az := c2 p; have aA := c2 a))
          go_roundg k2
          case measure => have := U.out; have := W.out; omega
          case rel => exact ⟨(wrap64 (c + 1)), rs_, H', ⟨by have := U.out; have := W.out; omega⟩, ⟨bkn a⟩, ⟨bn HB⟩⟩
      ·rw [if_neg x] at H; have ab := decide_eq_false x; clear x; obtain ⟨ag, ah, H⟩ := bi_ H; obtain rfl := Option.some.inj H; have aB := c2 a
       go_wp2_with (first | ((with_reducible refine gate_callee (f := 128) rfl ?_); refine gl_ (some 40) Try.func128 #[.slice t b.length u] ?_; (with_reducible refine (impl_ascending.calls k2 _ _ b ag _ ?z_1 ?z_2 ah.out).mono ?_); (case z_1 => exact cb B HB); (case z_2 => exact X.out); rintro e w31 ⟨rfl, hb⟩; refine ⟨_, rfl, ?_⟩; replace a := bb a hb; replace HB := bs HB hb; (try clear hb)))
       go_ret
       exact ⟨er_, bn HB⟩

/-! ### slices_Index_impl_Tie_impl_Tie: function 129 -/
def slices_Index_impl_Tie_impl_Tie.l0 : Nat → List (S33) → Int → Int → Int → Int → Option (Int)
 | 0, _, _, _, _, _ => none
 | k + 1, x0, x7, x8, x265000, x265001 => if x8 < x7 then (if 0 ≤ x8 then (if x8 < (x0.length : Int) then (if (x265000 == ((rd_T33 x0 x8).f0) && (x265001 == ((rd_T33 x0 x8).f1))) = true then (some x8) else (slices_Index_impl_Tie_impl_Tie.l0 k x0 x7 (wrap64 (x8 + 1)) x265000 x265001)) else (none)) else (none)) else (some (-1))
def slices_Index_impl_Tie_impl_Tie.f (k : Nat) (l0 : List (S33)) (a1_0 : Int) (a1_1 : Int) : Option (Int) := slices_Index_impl_Tie_impl_Tie.l0 k l0 (l0.length : Int) 0 a1_0 a1_1
theorem slices_Index_impl_Tie_impl_Tie.mono_l : ∀ k, (∀ a b c d e, LeO (slices_Index_impl_Tie_impl_Tie.l0 k a b c d e) (slices_Index_impl_Tie_impl_Tie.l0 (k + 1) a b c d e))
 | 0 => fun _ _ _ _ _ r h => by simp [slices_Index_impl_Tie_impl_Tie.l0] at h
 | k + 1 => by
  have ih0 := slices_Index_impl_Tie_impl_Tie.mono_l k
  ·intro a b c d e; unfold slices_Index_impl_Tie_impl_Tie.l0; exact mo_
theorem slices_Index_impl_Tie_impl_Tie.mono : ∀ a b c k, LeO (slices_Index_impl_Tie_impl_Tie.f k a b c) (slices_Index_impl_Tie_impl_Tie.f (k + 1) a b c) := by
 intro a b c k; have ih0 := slices_Index_impl_Tie_impl_Tie.mono_l k; unfold slices_Index_impl_Tie_impl_Tie.f; exact mo_
set_option maxHeartbeats 8000000 in
set_option maxRecDepth 100000 in
theorem slices_Index_impl_Tie_impl_Tie.calls (k : Nat) (q : Option Addr) (s : Nat) (l0 : List (S33)) (b : Int) (c : Int) (r : Int) (w : World) (t : Kd.C k33 w q l0.length l0) (u : l0.length ≤ s) (h : slices_Index_impl_Tie_impl_Tie.f k l0 b c = some r) :
  Calls Try.prog 129 #[.slice q l0.length s, .agg #[.int .i64 b, .int .i64 c]] w fun e w' => e = .returned (.int .i64 r) ∧ Below w.heap.size w w' := by
 have K := Try.underlying33; have x := am t; have HC0 := am u; clear t u; have HB := am (Below.refl w.heap.size w)
 have H : (slices_Index_impl_Tie_impl_Tie.l0 k l0 (l0.length : Int) 0 b c) = some r := h
 clear h; have H' := am H; clear H; go_enter Try.func129, Try.ntmps129
 go_wp2_with (first | ((with_reducible refine gate_dst (N := 3) rfl ?_); refine bx_ 3 #[.int .i64 b, .int .i64 c] 33 HB ?_; clear HB; intro o hg y hb g z HB; clear hb hg))
 repeat (go_quiet (first | ((with_reducible refine gate_dst (N := 3) rfl ?_); refine bx_ 3 #[.int .i64 b, .int .i64 c] 33 HB ?_; clear HB; intro o hg y hb g z HB; clear hb hg)); try go_wp2_with (first | ((with_reducible refine gate_dst (N := 3) rfl ?_); refine bx_ 3 #[.int .i64 b, .int .i64 c] 33 HB ?_; clear HB; intro o hg y hb g z HB; clear hb hg)))
 go_loopg [8] k (fun kq B w' => ∃ (a : Int), B = .int .i64 a ∧ Aside0 (slices_Index_impl_Tie_impl_Tie.l0 kq l0 (l0.length : Int) a b c = some r) ∧ Aside0 (kq ≤ k) ∧ Bk w' o (.cells #[.int .i64 b, .int .i64 c] 33 (0, 0)) ∧ Aside0 (Below w.heap.size w w'))
 case atStart => exact ⟨(0), rs_, H', ⟨Nat.le_refl _⟩, ⟨bkn g⟩, ⟨bn HB⟩⟩
 case round =>
  clear H'; obtain ⟨a, rfl, HA, A, g, HB⟩ := hrel; cases gk with
  | zero => exact absurd HA.out (by simp [slices_Index_impl_Tie_impl_Tie.l0])
  | succ k1 =>
   have H := HA.out; clear HA; simp only [slices_Index_impl_Tie_impl_Tie.l0] at H; by_cases l : a < (l0.length : Int)
   ·rw [if_pos l] at H; have D := decide_eq_true l; clear l; obtain ⟨L, H⟩ := id_ H; obtain ⟨M, H⟩ := id_ H; by_cases d : (b == ((rd_T33 l0 a).f0) && (c == ((rd_T33 l0 a).f1))) = true
    ·rw [if_pos d] at H; have E : (b == ((rd_T33 l0 a).f0) && (c == ((rd_T33 l0 a).f1))) = true := d; (try (have G : decide (b = ((rd_T33 l0 a).f0) && (c == ((rd_T33 l0 a).f1))) = true := by simpa using d)); (try (have I : (b == ((rd_T33 l0 a).f0) && (c == ((rd_T33 l0 a).f1))) = true := by simpa using d)); clear d; obtain rfl := Option.some.inj H; have O := c2 g; have i : 0 ≤ (a : Int) := oa; have j : a < (l0.length : Int) := oa; obtain ⟨J, p, m, n⟩ := at_T33 x.out a i j; cases p; replace m := hc_ HB m; replace n := hc_ HB n; obtain ⟨i, j⟩ := e2_ i j; go_wp2
     repeat (go_quiet (fail); try go_wp2)
     go_ret
     exact ⟨er_, bn HB⟩
    ·rw [if_neg d] at H; have E : (b == ((rd_T33 l0 a).f0) && (c == ((rd_T33 l0 a).f1))) = false := by simpa using d
     (try (have G : decide (b = ((rd_T33 l0 a).f0) && (c == ((rd_T33 l0 a).f1))) = false := by simpa using d)); (try (have I : (b == ((rd_T33 l0 a).f0) && (c == ((rd_T33 l0 a).f1))) = false := by simpa using d)); (try (have P : ¬ (b = ((rd_T33 l0 a).f0) && (c == ((rd_T33 l0 a).f1))) := by simpa using d)); clear d; have H' := am H; clear H; have T := c2 g; have i : 0 ≤ (a : Int) := oa; have j : a < (l0.length : Int) := oa; obtain ⟨J, p, m, n⟩ := at_T33 x.out a i j; cases p; replace m := hc_ HB m; replace n := hc_ HB n; obtain ⟨i, j⟩ := e2_ i j; go_wp2
     repeat (go_quiet (fail); try go_wp2)
     go_roundg k1
     case measure => have := A.out; omega
     case rel => exact ⟨(wrap64 (a + 1)), rs_, H', ⟨by have := A.out; omega⟩, ⟨bkn g⟩, ⟨bn HB⟩⟩
   ·rw [if_neg l] at H; have D := decide_eq_false l; clear l; obtain rfl := Option.some.inj H; go_wp2
    repeat (go_quiet (fail); try go_wp2)
    go_ret
    exact ⟨er_, bn HB⟩

/-! ### slices_Contains_impl_Tie_impl_Tie: function 86 -/
def slices_Contains_impl_Tie_impl_Tie.f (k : Nat) (l0 : List (S33)) (a1_0 : Int) (a1_1 : Int) : Option (Bool) := (slices_Index_impl_Tie_impl_Tie.f k l0 a1_0 a1_1).bind fun t267 => (some (decide (t267 ≥ 0)))
theorem slices_Contains_impl_Tie_impl_Tie.mono : ∀ a b c k, LeO (slices_Contains_impl_Tie_impl_Tie.f k a b c) (slices_Contains_impl_Tie_impl_Tie.f (k + 1) a b c) := by
 intro a b c k; unfold slices_Contains_impl_Tie_impl_Tie.f; have m0_ := @slices_Index_impl_Tie_impl_Tie.mono; exact mo_
set_option maxHeartbeats 8000000 in
set_option maxRecDepth 100000 in
theorem slices_Contains_impl_Tie_impl_Tie.calls (k : Nat) (d : Option Addr) (g : Nat) (a : List (S33)) (b : Int) (c : Int) (r : Bool) (w : World) (l : Kd.C k33 w d a.length a) (m : a.length ≤ g) (h : slices_Contains_impl_Tie_impl_Tie.f k a b c = some r) :
  Calls Try.prog 86 #[.slice d a.length g, .agg #[.int .i64 b, .int .i64 c]] w fun e w' => e = .returned (.bool r) ∧ Below w.heap.size w w' := by
 have q := Try.underlying33; have n := am l; have o := am m; clear l m; have HB := am (Below.refl w.heap.size w)
 have H : ((slices_Index_impl_Tie_impl_Tie.f k a b c).bind fun i => (some (decide (i ≥ 0)))) = some r := h
 clear h; obtain ⟨i, p, H⟩ := bi_ H; obtain rfl := Option.some.inj H; go_enter Try.func86, Try.ntmps86
 go_wp2_with (first | ((with_reducible refine gate_dst (N := 3) rfl ?_); refine bx_ 3 #[.int .i64 b, .int .i64 c] 33 HB ?_; clear HB; intro s hg w4 hb j t HB; clear hb hg; have u := c2 j) | ((with_reducible refine gate_callee (f := 129) rfl ?_); refine gl_ (some 7) Try.func129 #[.slice d a.length g, .agg #[.int .i64 b, .int .i64 c]] ?_; (with_reducible refine (slices_Index_impl_Tie_impl_Tie.calls k _ _ a b c i _ ?z_1 ?z_2 p.out).mono ?_); (case z_1 => exact cb n HB); (case z_2 => exact o.out); rintro e w6 ⟨rfl, hb⟩; refine ⟨_, rfl, ?_⟩; replace j := bb j hb; replace HB := bs HB hb; (try clear hb)))
 go_ret
 exact ⟨er_, bn HB⟩

/-! ### impl_tie: function 95 -/
def impl_tie.f (a0 : Int) (a1 : Int) : Option (Int × Int) := some (mn a0 a1, mx a0 a1)
set_option maxHeartbeats 8000000 in
set_option maxRecDepth 100000 in
theorem impl_tie.calls (a : Int) (b : Int) (c : Int) (d : Int) (w : World) (h : impl_tie.f a b = some (c, d)) :
  Calls Try.prog 95 #[.int .i64 a, .int .i64 b] w fun e w' => e = .returned (.agg #[.int .i64 c, .int .i64 d]) ∧ Below w.heap.size w w' := by
 have o := Try.underlying33; have HB := am (Below.refl w.heap.size w)
 have H : (some (mn a b, mx a b)) = some (c, d) := h
 clear h; obtain ⟨g, i⟩ : ∃ j_ : Int, (mn a b) = j_ := ⟨_, rfl⟩; replace H : (some (g, mx a b)) = some (c, d) := by first | (rw [i] at H; exact H) | (simp only [i] at H ⊢; exact H)
 have p : (if b < a then b else a) = g := i; obtain ⟨l, j⟩ : ∃ j_ : Int, (mx a b) = j_ := ⟨_, rfl⟩; replace H : (some (g, l)) = some (c, d) := by first | (rw [j] at H; exact H) | (simp only [j] at H ⊢; exact H)
 have q : (if a < b then b else a) = l := j; simp only [Option.some.injEq, Prod.mk.injEq] at H; obtain ⟨rfl, rfl⟩ := H; go_enter Try.func95, Try.ntmps95
 go_wp2_with (first | ((with_reducible refine gate_dst (N := 4) rfl ?_); refine bx_ 4 #[.int .i64 0, .int .i64 0] 33 HB ?_; clear HB; intro n hg w5 hb m s HB; clear hb hg; have t := c2 m))
 refine bodyPost_ret (results_cell_row rfl _ _ n 33 #[.int .i64 g, .int .i64 l] (0, 0) _ rfl (bkn m) Try.underlying33 rfl (by kernel_rfl)) rfl ?_; exact ⟨by first | rfl | (simp [errW_none, errW_some] <;> rfl) | (simp only [← i, ← j]; first | rfl | (simp [errW_none, errW_some] <;> rfl)) | (simp [*, errW_none, errW_some] <;> rfl), bn HB⟩

/-! ### impl_Net_has: function 94 -/
def impl_Net_has.f (k : Nat) (a0_0 : Int) (l0_1 : List (S33)) (a1 : Int) (a2 : Int) : Option (Bool) := (impl_tie.f a1 a2).bind fun bt270 => ((slices_Contains_impl_Tie_impl_Tie.f k l0_1 bt270.1 bt270.2).bind fun t272 => (some t272))
theorem impl_Net_has.mono : ∀ a b c d k, LeO (impl_Net_has.f k a b c d) (impl_Net_has.f (k + 1) a b c d) := by
 intro a b c d k; unfold impl_Net_has.f; have m0_ := @slices_Contains_impl_Tie_impl_Tie.mono; exact mo_
set_option maxHeartbeats 8000000 in
set_option maxRecDepth 100000 in
theorem impl_Net_has.calls (k : Nat) (m : Int) (g : Option Addr) (j : Nat) (b : List (S33)) (c : Int) (d : Int) (r : Bool) (w : World) (q : Kd.C k33 w g b.length b) (s : b.length ≤ j) (h : impl_Net_has.f k m b c d = some r) :
  Calls Try.prog 94 #[.agg #[.int .i64 m, .slice g b.length j], .int .i64 c, .int .i64 d] w fun e w' => e = .returned (.bool r) ∧ Below w.heap.size w w' := by
 have B := Try.underlying31; have u := am q; have x := am s; clear q s; have HB := am (Below.refl w.heap.size w)
 have H : ((impl_tie.f c d).bind fun t => ((slices_Contains_impl_Tie_impl_Tie.f k b t.1 t.2).bind fun n => (some n))) = some r := h
 clear h; obtain ⟨⟨o, p⟩, y, H⟩ := bi_ H; (try dsimp only at H); obtain ⟨n, z, H⟩ := bi_ H; obtain rfl := Option.some.inj H; go_enter Try.func94, Try.ntmps94
 try go_wp2_with (first | ((with_reducible refine gate_dst (N := 3) rfl ?_); refine bx_ 3 #[.int .i64 m, .slice g b.length j] 31 HB ?_; clear HB; intro D hg A hb a E HB; clear hb hg))
 replace a := dB a; replace HB := dL HB; refine s2_ 7 [] (bq a 0) (bq a 1) (fun l => ?_); generalize A.drew = w7 at a HB l ⊢; refine pure_ (i := 0) (N := some 7) (v := ?_) (a' := ?_) #[true, false, false, false, false, false, false] rfl rfl (by kernel_rfl) (fun _ _ _ h => h) (Or.inl ⟨by rfl, ?_⟩) ?_ ?_; rotate_left; (intro w'; go_simp; with_reducible rfl); rotate_left; (simp only [Act.put, List.setIfInBounds_toArray, List.set_cons_zero, List.set_cons_succ, i64_w, i32_w]; rfl); refine pure_ (i := 2) (N := some 9) (v := ?_) (a' := ?_) #[true, false, true, false, false, false, false] rfl rfl (by kernel_rfl) (fun _ _ _ h => h) (Or.inl ⟨by rfl, ?_⟩) ?_ ?_; rotate_left; (intro w'; go_simp; with_reducible rfl); rotate_left; (simp only [Act.put, List.setIfInBounds_toArray, List.set_cons_zero, List.set_cons_succ, i64_w, i32_w]; rfl); refine pure_ (i := 3) (N := some 10) (v := ?_) (a' := ?_) #[true, false, true, true, false, false, false] rfl rfl (by kernel_rfl) (fun _ _ _ h => h) (Or.inl ⟨by rfl, ?_⟩) ?_ ?_; rotate_left; (intro w'; go_simp; with_reducible rfl); rotate_left; (simp only [Act.put, List.setIfInBounds_toArray, List.set_cons_zero, List.set_cons_succ, i64_w, i32_w]; rfl); refine take_ (i := 1) (N := some 8) (v := ?_) (a' := ?_) #[true, true, true, true, false, false, false] rfl rfl (by kernel_rfl) (fun _ _ _ h => h) (Or.inl ⟨by rfl, ?_⟩) l ?_ ?_; rotate_left; (rintro w' ⟨s0, s1⟩; go_simp; with_reducible rfl); rotate_left; (simp only [Act.put, List.setIfInBounds_toArray, List.set_cons_zero, List.set_cons_succ, i64_w, i32_w]; rfl); refine one_ (i := 4) (N := some 11) #[true, true, true, true, true, false, false] rfl rfl (by kernel_rfl) (by decide) (fun K hK => ?_); refine gg_ Try.func95 #[.int .i64 c, .int .i64 d] ?_
 with_reducible refine (impl_tie.calls c d o p _ y.out).mono ?_
 rintro e w8 ⟨rfl, hb⟩; refine ⟨_, rfl, ?_⟩; replace a := bb a hb; replace HB := bs HB hb; (try clear hb); refine hK.out _ _ ⟨(bc a 0), (bc a 1)⟩ (fun l => ?_); clear hK K; refine nz_ 11 ?_; refine one_ (i := 5) (N := some 12) #[true, true, true, true, true, true, false] rfl rfl (by kernel_rfl) (by decide) (fun K hK => ?_); refine gg_ Try.func86 #[.slice g b.length j, .agg #[.int .i64 o, .int .i64 p]] ?_
 with_reducible refine (slices_Contains_impl_Tie_impl_Tie.calls k _ _ b o p n _ ?z_1 ?z_2 z.out).mono ?_
 (case z_1 => exact cb u HB); (case z_2 => exact x.out); rintro e w9 ⟨rfl, hb⟩; refine ⟨_, rfl, ?_⟩; replace a := bb a hb; replace HB := bs HB hb; (try clear hb); refine hK.out _ _ ⟨(bc a 0), (bc a 1)⟩ (fun l => ?_); clear hK K; refine nz_ 12 ?_; refine pure_ (i := 6) (N := some 6) (v := ?_) (a' := ?_) #[true, true, true, true, true, true, true] rfl rfl (by kernel_rfl) (fun _ _ _ h => h) (Or.inl ⟨by rfl, ?_⟩) ?_ ?_; rotate_left; (intro w'; go_simp; with_reducible rfl); rotate_left; (simp only [Act.put, List.setIfInBounds_toArray, List.set_cons_zero, List.set_cons_succ, i64_w, i32_w]; rfl); refine done_ (by kernel_rfl) ?_; try go_wp2
 go_ret
 exact ⟨er_, bn HB⟩

/-! ### slices_Index_int_int: function 146 -/
def slices_Index_int_int.l0 : Nat → List Int → Int → Int → Int → Option (Int)
 | 0, _, _, _, _ => none
 | k + 1, x0, x1, x7, x8 => if x8 < x7 then (if 0 ≤ x8 then (if x8 < (x0.length : Int) then (if x1 = (rd x0 x8) then (some x8) else (slices_Index_int_int.l0 k x0 x1 x7 (wrap64 (x8 + 1)))) else (none)) else (none)) else (some (-1))
def slices_Index_int_int.f (k : Nat) (l0 : List Int) (a1 : Int) : Option (Int) := slices_Index_int_int.l0 k l0 a1 (l0.length : Int) 0
theorem slices_Index_int_int.mono_l : ∀ k, (∀ a b c d, LeO (slices_Index_int_int.l0 k a b c d) (slices_Index_int_int.l0 (k + 1) a b c d))
 | 0 => fun _ _ _ _ r h => by simp [slices_Index_int_int.l0] at h
 | k + 1 => by
  have ih0 := slices_Index_int_int.mono_l k
  ·intro a b c d; unfold slices_Index_int_int.l0; exact mo_
theorem slices_Index_int_int.mono : ∀ a b k, LeO (slices_Index_int_int.f k a b) (slices_Index_int_int.f (k + 1) a b) := by
 intro a b k; have ih0 := slices_Index_int_int.mono_l k; unfold slices_Index_int_int.f; exact mo_
set_option maxHeartbeats 8000000 in
set_option maxRecDepth 100000 in
theorem slices_Index_int_int.calls (k : Nat) (l : Option Addr) (m : Nat) (l0 : List Int) (b : Int) (r : Int) (w : World) (n : Kd.C (Kd.int .i64) w l l0.length l0) (o : l0.length ≤ m) (h : slices_Index_int_int.f k l0 b = some r) :
  Calls Try.prog 146 #[.slice l l0.length m, .int .i64 b] w fun e w' => e = .returned (.int .i64 r) ∧ Drawn0 w w' := by
 have p := am n; have HC0 := am o; clear n o
 have H : (slices_Index_int_int.l0 k l0 b (l0.length : Int) 0) = some r := h
 clear h; have H' := am H; clear H; go_enter Try.func146, Try.ntmps146; go_wp2
 go_loopg [8] k (fun kq s w' => ∃ (a : Int), s = .int .i64 a ∧ Aside0 (slices_Index_int_int.l0 kq l0 b (l0.length : Int) a = some r) ∧ Aside0 (kq ≤ k) ∧ Drawn0 w w')
 case atStart => exact ⟨(0), rs_, H', ⟨Nat.le_refl _⟩, by repeat (first | exact Drawn0.refl _ | apply Drawn0.step)⟩
 case round =>
  clear H'; obtain ⟨a, rfl, HA, q, ⟨m1, rfl⟩⟩ := hrel; cases gk with
  | zero => exact absurd HA.out (by simp [slices_Index_int_int.l0])
  | succ k1 =>
   have H := HA.out; clear HA; simp only [slices_Index_int_int.l0] at H; by_cases i : a < (l0.length : Int)
   ·rw [if_pos i] at H; have t := decide_eq_true i; clear i; obtain ⟨A, H⟩ := id_ H; obtain ⟨B, H⟩ := id_ H; by_cases c : b = (rd l0 a)
    ·rw [if_pos c] at H; have u : (b == (rd l0 a)) = true := beq_iff_eq.mpr c; have x : (b != (rd l0 a)) = false := bne_eq_false_iff_eq.mpr c; clear c; obtain rfl := Option.some.inj H; have d : 0 ≤ (a : Int) := oa; have g : a < (l0.length : Int) := oa; obtain ⟨y, j, z⟩ := Kd.at_int p.out a d g; cases j; obtain ⟨d, g⟩ := e2_ d g; go_wp2
     go_ret
     exact ⟨rs_, by repeat (first | exact Drawn0.refl _ | apply Drawn0.step)⟩
    ·rw [if_neg c] at H; have u : (b == (rd l0 a)) = false := beq_eq_false_iff_ne.mpr c; have x : (b != (rd l0 a)) = true := bne_iff_ne.mpr c; have H' := am H; clear H; have d : 0 ≤ (a : Int) := oa; have g : a < (l0.length : Int) := oa; obtain ⟨y, j, z⟩ := Kd.at_int p.out a d g; cases j; obtain ⟨d, g⟩ := e2_ d g; go_wp2
     go_roundg k1
     case measure => have := q.out; omega
     case rel => exact ⟨(wrap64 (a + 1)), rs_, H', ⟨by have := q.out; omega⟩, by repeat (first | exact Drawn0.refl _ | apply Drawn0.step)⟩
   ·rw [if_neg i] at H; have t := decide_eq_false i; clear i; obtain rfl := Option.some.inj H; go_wp2
    go_ret
    exact ⟨rs_, by repeat (first | exact Drawn0.refl _ | apply Drawn0.step)⟩

/-! ### slices_Contains_int_int: function 114 -/
def slices_Contains_int_int.f (k : Nat) (l0 : List Int) (a1 : Int) : Option (Bool) := (slices_Index_int_int.f k l0 a1).bind fun t274 => (some (decide (t274 ≥ 0)))
theorem slices_Contains_int_int.mono : ∀ a b k, LeO (slices_Contains_int_int.f k a b) (slices_Contains_int_int.f (k + 1) a b) := by
 intro a b k; unfold slices_Contains_int_int.f; have m0_ := @slices_Index_int_int.mono; exact mo_
set_option maxHeartbeats 8000000 in
set_option maxRecDepth 100000 in
theorem slices_Contains_int_int.calls (k : Nat) (c : Option Addr) (d : Nat) (a : List Int) (b : Int) (r : Bool) (w : World) (i : Kd.C (Kd.int .i64) w c a.length a) (j : a.length ≤ d) (h : slices_Contains_int_int.f k a b = some r) :
  Calls Try.prog 114 #[.slice c a.length d, .int .i64 b] w fun e w' => e = .returned (.bool r) ∧ Drawn0 w w' := by
 have l := am i; have m := am j; clear i j
 have H : ((slices_Index_int_int.f k a b).bind fun g => (some (decide (g ≥ 0)))) = some r := h
 clear h; obtain ⟨g, n, H⟩ := bi_ H; obtain rfl := Option.some.inj H; go_enter Try.func114, Try.ntmps114
 go_wp2_with (first | ((with_reducible refine gate_callee (f := 146) rfl ?_); refine gl_ (some 7) Try.func146 #[.slice c a.length d, .int .i64 b] ?_; (with_reducible refine (slices_Index_int_int.calls k _ _ a b g _ ?z_1 ?z_2 n.out).mono ?_); (case z_1 => repeat (first | exact l.out | (with_reducible refine Kd.C_alloc ?_ _) | (with_reducible refine Kd.C_drewN ?_ _) | (with_reducible refine Kd.C_drew ?_))); (case z_2 => exact m.out); rintro e w' ⟨rfl, ⟨nd, rfl⟩⟩; refine ⟨_, rfl, ?_⟩))
 go_ret
 exact ⟨rs_, by repeat (first | exact Drawn0.refl _ | apply Drawn0.step)⟩

end Go.Proofs.Ythmddmobfkfgeaa.F
