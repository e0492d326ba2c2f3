-- By oprint.py.
import Derived.Test.YtffflhmblelegaaF0
import Derived.Test.YtffflhmblelegaaF1
namespace Go.Proofs.Ytffflhmblelegaa.F
open Go.RowKit Go.Proofs.YtffflhmblelegaaW.PrintWords Go.Proofs.YtffflhmblelegaaW.PrintLast Go.Proofs.YtffflhmblelegaaW.PrintMore
attribute [local go_sem] max2_int min2_int max_two min_two max_three min_three max_four min_four
set_option linter.unusedVariables false
set_option linter.unusedSimpArgs false
attribute [local go_sem high] eqA52
/-! ### impl_tie: function 53 -/
def impl_tie.f (a0 : Int) (a1 : Int) : Option (Int × Int) := some (mn a0 a1, mx a0 a1)
set_option maxHeartbeats 8000000 in
set_option maxRecDepth 100000 in
theorem impl_tie.calls (a : Int) (b : Int) (c : Int) (d : Int) (w : World) (h : impl_tie.f a b = some (c, d)) :
  Calls Try.prog 53 #[.int .i64 a, .int .i64 b] w fun e w' => e = .returned (.agg #[.int .i64 c, .int .i64 d]) ∧ Below w.heap.size w w' := by
 have o := Try.underlying52; have HB := am (Below.refl w.heap.size w)
 have H : (some (mn a b, mx a b)) = some (c, d) := h
 clear h; obtain ⟨g, i⟩ : ∃ j_ : Int, (mn a b) = j_ := ⟨_, rfl⟩; replace H : (some (g, mx a b)) = some (c, d) := by first | (rw [i] at H; exact H) | (simp only [i] at H ⊢; exact H)
 have p : (if b < a then b else a) = g := i; obtain ⟨l, j⟩ : ∃ j_ : Int, (mx a b) = j_ := ⟨_, rfl⟩; replace H : (some (g, l)) = some (c, d) := by first | (rw [j] at H; exact H) | (simp only [j] at H ⊢; exact H)
 have q : (if a < b then b else a) = l := j; simp only [Option.some.injEq, Prod.mk.injEq] at H; obtain ⟨rfl, rfl⟩ := H; go_enter Try.func53, Try.ntmps53
 go_wp2_with (first | ((with_reducible refine gate_dst (N := 4) rfl ?_); refine bx_ 4 #[.int .i64 0, .int .i64 0] 52 HB ?_; clear HB; intro n hg w5 hb m s HB; clear hb hg; have t := c2 m))
 refine bodyPost_ret (results_cell_row rfl _ _ n 52 #[.int .i64 g, .int .i64 l] (0, 0) _ rfl (bkn m) Try.underlying52 rfl (by kernel_rfl)) rfl ?_; exact ⟨by first | rfl | (simp [errW_none, errW_some] <;> rfl) | (simp only [← i, ← j]; first | rfl | (simp [errW_none, errW_some] <;> rfl)) | (simp [*, errW_none, errW_some] <;> rfl), bn HB⟩
/-! ### slices_Index_impl_Tie_impl_Tie: function 107 -/
def slices_Index_impl_Tie_impl_Tie.l0 : Nat → List (S52) → Int → Int → Int → Int → Option (Int)
 | 0, _, _, _, _, _ => none
 | k + 1, x0, x7, x8, x425000, x425001 => if x8 < x7 then (if 0 ≤ x8 then (if x8 < (x0.length : Int) then (if (x425000 == ((rd_T52 x0 x8).f0) && (x425001 == ((rd_T52 x0 x8).f1))) = true then (some x8) else (slices_Index_impl_Tie_impl_Tie.l0 k x0 x7 (wrap64 (x8 + 1)) x425000 x425001)) else (none)) else (none)) else (some (-1))
def slices_Index_impl_Tie_impl_Tie.f (k : Nat) (l0 : List (S52)) (a1_0 : Int) (a1_1 : Int) : Option (Int) := slices_Index_impl_Tie_impl_Tie.l0 k l0 (l0.length : Int) 0 a1_0 a1_1
set_option maxHeartbeats 8000000 in
set_option maxRecDepth 100000 in
theorem slices_Index_impl_Tie_impl_Tie.calls (k : Nat) (q : Option Addr) (s : Nat) (l0 : List (S52)) (b : Int) (c : Int) (r : Int) (w : World) (t : Kd.C k52 w q l0.length l0) (u : l0.length ≤ s) (h : slices_Index_impl_Tie_impl_Tie.f k l0 b c = some r) :
  Calls Try.prog 107 #[.slice q l0.length s, .agg #[.int .i64 b, .int .i64 c]] w fun e w' => e = .returned (.int .i64 r) ∧ Below w.heap.size w w' := by
 have K := Try.underlying52; have x := am t; have HC0 := am u; clear t u; have HB := am (Below.refl w.heap.size w)
 have H : (slices_Index_impl_Tie_impl_Tie.l0 k l0 (l0.length : Int) 0 b c) = some r := h
 clear h; have H' := am H; clear H; go_enter Try.func107, Try.ntmps107
 go_wp2_with (first | ((with_reducible refine gate_dst (N := 3) rfl ?_); refine bx_ 3 #[.int .i64 b, .int .i64 c] 52 HB ?_; clear HB; intro o hg y hb g z HB; clear hb hg))
 repeat (go_quiet (first | ((with_reducible refine gate_dst (N := 3) rfl ?_); refine bx_ 3 #[.int .i64 b, .int .i64 c] 52 HB ?_; clear HB; intro o hg y hb g z HB; clear hb hg)); try go_wp2_with (first | ((with_reducible refine gate_dst (N := 3) rfl ?_); refine bx_ 3 #[.int .i64 b, .int .i64 c] 52 HB ?_; clear HB; intro o hg y hb g z HB; clear hb hg)))
 go_loopg [8] k (fun kq B w' => ∃ (a : Int), B = .int .i64 a ∧ Aside0 (slices_Index_impl_Tie_impl_Tie.l0 kq l0 (l0.length : Int) a b c = some r) ∧ Aside0 (kq ≤ k) ∧ Bk w' o (.cells #[.int .i64 b, .int .i64 c] 52 (0, 0)) ∧ Aside0 (Below w.heap.size w w'))
 case atStart => exact ⟨(0), rs_, H', ⟨Nat.le_refl _⟩, ⟨bkn g⟩, ⟨bn HB⟩⟩
 case round =>
  clear H'; obtain ⟨a, rfl, HA, A, g, HB⟩ := hrel; cases gk with
  | zero => exact absurd HA.out (by simp [slices_Index_impl_Tie_impl_Tie.l0])
  | succ k1 =>
   have H := HA.out; clear HA; simp only [slices_Index_impl_Tie_impl_Tie.l0] at H; by_cases l : a < (l0.length : Int)
   ·rw [if_pos l] at H; have D := decide_eq_true l; clear l; obtain ⟨L, H⟩ := id_ H; obtain ⟨M, H⟩ := id_ H; by_cases d : (b == ((rd_T52 l0 a).f0) && (c == ((rd_T52 l0 a).f1))) = true
    ·rw [if_pos d] at H; have E : (b == ((rd_T52 l0 a).f0) && (c == ((rd_T52 l0 a).f1))) = true := d; (try (have G : decide (b = ((rd_T52 l0 a).f0) && (c == ((rd_T52 l0 a).f1))) = true := by simpa using d)); (try (have I : (b == ((rd_T52 l0 a).f0) && (c == ((rd_T52 l0 a).f1))) = true := by simpa using d)); clear d; obtain rfl := Option.some.inj H; have O := c2 g; have i : 0 ≤ (a : Int) := oa; have j : a < (l0.length : Int) := oa; obtain ⟨J, p, m, n⟩ := at_T52 x.out a i j; cases p; replace m := hc_ HB m; replace n := hc_ HB n; obtain ⟨i, j⟩ := e2_ i j; go_wp2
     repeat (go_quiet (fail); try go_wp2)
     go_ret
     exact ⟨er_, bn HB⟩
    ·rw [if_neg d] at H; have E : (b == ((rd_T52 l0 a).f0) && (c == ((rd_T52 l0 a).f1))) = false := by simpa using d
     (try (have G : decide (b = ((rd_T52 l0 a).f0) && (c == ((rd_T52 l0 a).f1))) = false := by simpa using d)); (try (have I : (b == ((rd_T52 l0 a).f0) && (c == ((rd_T52 l0 a).f1))) = false := by simpa using d)); (try (have P : ¬ (b = ((rd_T52 l0 a).f0) && (c == ((rd_T52 l0 a).f1))) := by simpa using d)); clear d; have H' := am H; clear H; have T := c2 g; have i : 0 ≤ (a : Int) := oa; have j : a < (l0.length : Int) := oa; obtain ⟨J, p, m, n⟩ := at_T52 x.out a i j; cases p; replace m := hc_ HB m; replace n := hc_ HB n; obtain ⟨i, j⟩ := e2_ i j; go_wp2
     repeat (go_quiet (fail); try go_wp2)
     go_roundg k1
     case measure => have := A.out; omega
     case rel => exact ⟨(wrap64 (a + 1)), rs_, H', ⟨by have := A.out; omega⟩, ⟨bkn g⟩, ⟨bn HB⟩⟩
   ·rw [if_neg l] at H; have D := decide_eq_false l; clear l; obtain rfl := Option.some.inj H; go_wp2
    repeat (go_quiet (fail); try go_wp2)
    go_ret
    exact ⟨er_, bn HB⟩
/-! ### slices_Contains_impl_Tie_impl_Tie: function 73 -/
def slices_Contains_impl_Tie_impl_Tie.f (k : Nat) (l0 : List (S52)) (a1_0 : Int) (a1_1 : Int) : Option (Bool) := (slices_Index_impl_Tie_impl_Tie.f k l0 a1_0 a1_1).bind fun t427 => (some (decide (t427 ≥ 0)))
set_option maxHeartbeats 8000000 in
set_option maxRecDepth 100000 in
theorem slices_Contains_impl_Tie_impl_Tie.calls (k : Nat) (d : Option Addr) (g : Nat) (a : List (S52)) (b : Int) (c : Int) (r : Bool) (w : World) (l : Kd.C k52 w d a.length a) (m : a.length ≤ g) (h : slices_Contains_impl_Tie_impl_Tie.f k a b c = some r) :
  Calls Try.prog 73 #[.slice d a.length g, .agg #[.int .i64 b, .int .i64 c]] w fun e w' => e = .returned (.bool r) ∧ Below w.heap.size w w' := by
 have q := Try.underlying52; have n := am l; have o := am m; clear l m; have HB := am (Below.refl w.heap.size w)
 have H : ((slices_Index_impl_Tie_impl_Tie.f k a b c).bind fun i => (some (decide (i ≥ 0)))) = some r := h
 clear h; obtain ⟨i, p, H⟩ := bi_ H; obtain rfl := Option.some.inj H; go_enter Try.func73, Try.ntmps73
 go_wp2_with (first | ((with_reducible refine gate_dst (N := 3) rfl ?_); refine bx_ 3 #[.int .i64 b, .int .i64 c] 52 HB ?_; clear HB; intro s hg w4 hb j t HB; clear hb hg; have u := c2 j) | ((with_reducible refine gate_callee (f := 107) rfl ?_); refine gl_ (some 7) Try.func107 #[.slice d a.length g, .agg #[.int .i64 b, .int .i64 c]] ?_; (with_reducible refine (slices_Index_impl_Tie_impl_Tie.calls k _ _ a b c i _ ?z_1 ?z_2 p.out).mono ?_); (case z_1 => exact cb n HB); (case z_2 => exact o.out); rintro e w6 ⟨rfl, hb⟩; refine ⟨_, rfl, ?_⟩; replace j := bb j hb; replace HB := bs HB hb; (try clear hb)))
 go_ret
 exact ⟨er_, bn HB⟩
/-! ### impl_Net_has: function 81 -/
def impl_Net_has.f (k : Nat) (a0_0 : Int) (l0_1 : List (S52)) (a1 : Int) (a2 : Int) : Option (Bool) := (impl_tie.f a1 a2).bind fun bt429 => ((slices_Contains_impl_Tie_impl_Tie.f k l0_1 bt429.1 bt429.2).bind fun t431 => (some t431))
set_option maxHeartbeats 8000000 in
set_option maxRecDepth 100000 in
theorem impl_Net_has.calls (k : Nat) (m : Int) (g : Option Addr) (j : Nat) (b : List (S52)) (c : Int) (d : Int) (r : Bool) (w : World) (q : Kd.C k52 w g b.length b) (s : b.length ≤ j) (h : impl_Net_has.f k m b c d = some r) :
  Calls Try.prog 81 #[.agg #[.int .i64 m, .slice g b.length j], .int .i64 c, .int .i64 d] w fun e w' => e = .returned (.bool r) ∧ Below w.heap.size w w' := by
 have B := Try.underlying25; have u := am q; have x := am s; clear q s; have HB := am (Below.refl w.heap.size w)
 have H : ((impl_tie.f c d).bind fun t => ((slices_Contains_impl_Tie_impl_Tie.f k b t.1 t.2).bind fun n => (some n))) = some r := h
 clear h; obtain ⟨⟨o, p⟩, y, H⟩ := bi_ H; (try dsimp only at H); obtain ⟨n, z, H⟩ := bi_ H; obtain rfl := Option.some.inj H; go_enter Try.func81, Try.ntmps81
 try go_wp2_with (first | ((with_reducible refine gate_dst (N := 3) rfl ?_); refine bx_ 3 #[.int .i64 m, .slice g b.length j] 25 HB ?_; clear HB; intro D hg A hb a E HB; clear hb hg))
 replace a := dB a; replace HB := dL HB; refine s2_ 7 [] (bq a 0) (bq a 1) (fun l => ?_); generalize A.drew = w7 at a HB l ⊢; refine pure_ (i := 0) (N := some 7) (v := ?_) (a' := ?_) #[true, false, false, false, false, false, false] rfl rfl (by kernel_rfl) (fun _ _ _ h => h) (Or.inl ⟨by rfl, ?_⟩) ?_ ?_; rotate_left; (intro w'; go_simp; with_reducible rfl); rotate_left; (simp only [Act.put, List.setIfInBounds_toArray, List.set_cons_zero, List.set_cons_succ, i64_w, i32_w]; rfl); refine pure_ (i := 2) (N := some 9) (v := ?_) (a' := ?_) #[true, false, true, false, false, false, false] rfl rfl (by kernel_rfl) (fun _ _ _ h => h) (Or.inl ⟨by rfl, ?_⟩) ?_ ?_; rotate_left; (intro w'; go_simp; with_reducible rfl); rotate_left; (simp only [Act.put, List.setIfInBounds_toArray, List.set_cons_zero, List.set_cons_succ, i64_w, i32_w]; rfl); refine pure_ (i := 3) (N := some 10) (v := ?_) (a' := ?_) #[true, false, true, true, false, false, false] rfl rfl (by kernel_rfl) (fun _ _ _ h => h) (Or.inl ⟨by rfl, ?_⟩) ?_ ?_; rotate_left; (intro w'; go_simp; with_reducible rfl); rotate_left; (simp only [Act.put, List.setIfInBounds_toArray, List.set_cons_zero, List.set_cons_succ, i64_w, i32_w]; rfl); refine take_ (i := 1) (N := some 8) (v := ?_) (a' := ?_) #[true, true, true, true, false, false, false] rfl rfl (by kernel_rfl) (fun _ _ _ h => h) (Or.inl ⟨by rfl, ?_⟩) l ?_ ?_; rotate_left; (rintro w' ⟨s0, s1⟩; go_simp; with_reducible rfl); rotate_left; (simp only [Act.put, List.setIfInBounds_toArray, List.set_cons_zero, List.set_cons_succ, i64_w, i32_w]; rfl); refine one_ (i := 4) (N := some 11) #[true, true, true, true, true, false, false] rfl rfl (by kernel_rfl) (by decide) (fun K hK => ?_); refine gg_ Try.func53 #[.int .i64 c, .int .i64 d] ?_
 with_reducible refine (impl_tie.calls c d o p _ y.out).mono ?_
 rintro e w8 ⟨rfl, hb⟩; refine ⟨_, rfl, ?_⟩; replace a := bb a hb; replace HB := bs HB hb; (try clear hb); refine hK.out _ _ ⟨(bc a 0), (bc a 1)⟩ (fun l => ?_); clear hK K; refine nz_ 11 ?_; refine one_ (i := 5) (N := some 12) #[true, true, true, true, true, true, false] rfl rfl (by kernel_rfl) (by decide) (fun K hK => ?_); refine gg_ Try.func73 #[.slice g b.length j, .agg #[.int .i64 o, .int .i64 p]] ?_
 with_reducible refine (slices_Contains_impl_Tie_impl_Tie.calls k _ _ b o p n _ ?z_1 ?z_2 z.out).mono ?_
 (case z_1 => exact cb u HB); (case z_2 => exact x.out); rintro e w9 ⟨rfl, hb⟩; refine ⟨_, rfl, ?_⟩; replace a := bb a hb; replace HB := bs HB hb; (try clear hb); refine hK.out _ _ ⟨(bc a 0), (bc a 1)⟩ (fun l => ?_); clear hK K; refine nz_ 12 ?_; refine pure_ (i := 6) (N := some 6) (v := ?_) (a' := ?_) #[true, true, true, true, true, true, true] rfl rfl (by kernel_rfl) (fun _ _ _ h => h) (Or.inl ⟨by rfl, ?_⟩) ?_ ?_; rotate_left; (intro w'; go_simp; with_reducible rfl); rotate_left; (simp only [Act.put, List.setIfInBounds_toArray, List.set_cons_zero, List.set_cons_succ, i64_w, i32_w]; rfl); refine done_ (by kernel_rfl) ?_; try go_wp2
 go_ret
 exact ⟨er_, bn HB⟩
/-! ### slices_Index_int_int: function 129 -/
def slices_Index_int_int.l0 : Nat → List Int → Int → Int → Int → Option (Int)
 | 0, _, _, _, _ => none
 | k + 1, x0, x1, x7, x8 => if x8 < x7 then (if 0 ≤ x8 then (if x8 < (x0.length : Int) then (if x1 = (rd x0 x8) then (some x8) else (slices_Index_int_int.l0 k x0 x1 x7 (wrap64 (x8 + 1)))) else (none)) else (none)) else (some (-1))
def slices_Index_int_int.f (k : Nat) (l0 : List Int) (a1 : Int) : Option (Int) := slices_Index_int_int.l0 k l0 a1 (l0.length : Int) 0
set_option maxHeartbeats 8000000 in
set_option maxRecDepth 100000 in
theorem slices_Index_int_int.calls (k : Nat) (l : Option Addr) (m : Nat) (l0 : List Int) (b : Int) (r : Int) (w : World) (n : Kd.C (Kd.int .i64) w l l0.length l0) (o : l0.length ≤ m) (h : slices_Index_int_int.f k l0 b = some r) :
  Calls Try.prog 129 #[.slice l l0.length m, .int .i64 b] w fun e w' => e = .returned (.int .i64 r) ∧ Drawn0 w w' := by
 have p := am n; have HC0 := am o; clear n o
 have H : (slices_Index_int_int.l0 k l0 b (l0.length : Int) 0) = some r := h
 clear h; have H' := am H; clear H; go_enter Try.func129, Try.ntmps129; go_wp2
 go_loopg [8] k (fun kq s w' => ∃ (a : Int), s = .int .i64 a ∧ Aside0 (slices_Index_int_int.l0 kq l0 b (l0.length : Int) a = some r) ∧ Aside0 (kq ≤ k) ∧ Drawn0 w w')
 case atStart => exact ⟨(0), rs_, H', ⟨Nat.le_refl _⟩, by repeat (first | exact Drawn0.refl _ | apply Drawn0.step)⟩
 case round =>
  clear H'; obtain ⟨a, rfl, HA, q, ⟨m1, rfl⟩⟩ := hrel; cases gk with
  | zero => exact absurd HA.out (by simp [slices_Index_int_int.l0])
  | succ k1 =>
   have H := HA.out; clear HA; simp only [slices_Index_int_int.l0] at H; by_cases i : a < (l0.length : Int)
   ·rw [if_pos i] at H; have t := decide_eq_true i; clear i; obtain ⟨A, H⟩ := id_ H; obtain ⟨B, H⟩ := id_ H; by_cases c : b = (rd l0 a)
    ·rw [if_pos c] at H; have u : (b == (rd l0 a)) = true := beq_iff_eq.mpr c; have x : (b != (rd l0 a)) = false := bne_eq_false_iff_eq.mpr c; clear c; obtain rfl := Option.some.inj H; have d : 0 ≤ (a : Int) := oa; have g : a < (l0.length : Int) := oa; obtain ⟨y, j, z⟩ := Kd.at_int p.out a d g; cases j; obtain ⟨d, g⟩ := e2_ d g; go_wp2
     go_ret
     exact ⟨rs_, by repeat (first | exact Drawn0.refl _ | apply Drawn0.step)⟩
    ·rw [if_neg c] at H; have u : (b == (rd l0 a)) = false := beq_eq_false_iff_ne.mpr c; have x : (b != (rd l0 a)) = true := bne_iff_ne.mpr c; have H' := am H; clear H; have d : 0 ≤ (a : Int) := oa; have g : a < (l0.length : Int) := oa; obtain ⟨y, j, z⟩ := Kd.at_int p.out a d g; cases j; obtain ⟨d, g⟩ := e2_ d g; go_wp2
     go_roundg k1
     case measure => have := q.out; omega
     case rel => exact ⟨(wrap64 (a + 1)), rs_, H', ⟨by have := q.out; omega⟩, by repeat (first | exact Drawn0.refl _ | apply Drawn0.step)⟩
   ·rw [if_neg i] at H; have t := decide_eq_false i; clear i; obtain rfl := Option.some.inj H; go_wp2
    go_ret
    exact ⟨rs_, by repeat (first | exact Drawn0.refl _ | apply Drawn0.step)⟩
/-! ### slices_Contains_int_int: function 111 -/
def slices_Contains_int_int.f (k : Nat) (l0 : List Int) (a1 : Int) : Option (Bool) := (slices_Index_int_int.f k l0 a1).bind fun t438 => (some (decide (t438 ≥ 0)))
set_option maxHeartbeats 8000000 in
set_option maxRecDepth 100000 in
theorem slices_Contains_int_int.calls (k : Nat) (c : Option Addr) (d : Nat) (a : List Int) (b : Int) (r : Bool) (w : World) (i : Kd.C (Kd.int .i64) w c a.length a) (j : a.length ≤ d) (h : slices_Contains_int_int.f k a b = some r) :
  Calls Try.prog 111 #[.slice c a.length d, .int .i64 b] w fun e w' => e = .returned (.bool r) ∧ Drawn0 w w' := by
 have l := am i; have m := am j; clear i j
 have H : ((slices_Index_int_int.f k a b).bind fun g => (some (decide (g ≥ 0)))) = some r := h
 clear h; obtain ⟨g, n, H⟩ := bi_ H; obtain rfl := Option.some.inj H; go_enter Try.func111, Try.ntmps111
 go_wp2_with (first | ((with_reducible refine gate_callee (f := 129) rfl ?_); refine gl_ (some 7) Try.func129 #[.slice c a.length d, .int .i64 b] ?_; (with_reducible refine (slices_Index_int_int.calls k _ _ a b g _ ?z_1 ?z_2 n.out).mono ?_); (case z_1 => repeat (first | exact l.out | (with_reducible refine Kd.C_alloc ?_ _) | (with_reducible refine Kd.C_drewN ?_ _) | (with_reducible refine Kd.C_drew ?_))); (case z_2 => exact m.out); rintro e w' ⟨rfl, ⟨nd, rfl⟩⟩; refine ⟨_, rfl, ?_⟩))
 go_ret
 exact ⟨rs_, by repeat (first | exact Drawn0.refl _ | apply Drawn0.step)⟩
end Go.Proofs.Ytffflhmblelegaa.F
