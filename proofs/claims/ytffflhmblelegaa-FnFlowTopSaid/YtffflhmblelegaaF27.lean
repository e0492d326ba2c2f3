-- By oprint.py.
import Derived.Test.YtffflhmblelegaaF0
import Derived.Test.YtffflhmblelegaaF1
import Derived.Test.YtffflhmblelegaaF17
import Derived.Test.YtffflhmblelegaaF18
import Derived.Test.YtffflhmblelegaaF4
import Derived.Test.YtffflhmblelegaaXFlowI
namespace Go.Proofs.Ytffflhmblelegaa.F
open Go.RowKit Go.Proofs.YtffflhmblelegaaW.PrintWords Go.Proofs.YtffflhmblelegaaW.PrintLast Go.Proofs.YtffflhmblelegaaW.PrintMore
attribute [local go_sem] max2_int min2_int max_two min_two max_three min_three max_four min_four
set_option linter.unusedVariables false
set_option linter.unusedSimpArgs false
attribute [local go_sem high] eqA52
/-! ### laws_loTies: function 16 -/
def laws_loTies.l0 : Nat → List (S52) → List (S52) → Int → Option (Bool)
 | 0, _, _, _ => none
 | k + 1, x0, x1, x5 => if x5 < (x0.length : Int) then (if 0 ≤ x5 then (if x5 < (x1.length : Int) then (if (!(((rd_T52 x0 x5).f0) == ((rd_T52 x1 x5).f0)) || (!(((rd_T52 x0 x5).f1) == ((rd_T52 x1 x5).f1)))) = true then (some false) else (laws_loTies.l0 k x0 x1 (wrap64 (x5 + 1)))) else (none)) else (none)) else (some true)
def laws_loTies.f (k : Nat) (l0 : List (S52)) (l1 : List (S52)) : Option (Bool) := if (l0.length : Int) = (l1.length : Int) then (laws_loTies.l0 k l0 l1 0) else (some false)
set_option maxHeartbeats 8000000 in
set_option maxRecDepth 100000 in
theorem laws_loTies.calls (k : Nat) (q : Option Addr) (s : Nat) (l0 : List (S52)) (t : Option Addr) (n : Nat) (b : List (S52)) (r : Bool) (w : World) (u : Kd.C k52 w q l0.length l0) (x : l0.length ≤ s) (y : Kd.C k52 w t b.length b) (z : b.length ≤ n) (h : laws_loTies.f k l0 b = some r) :
  Calls Try.prog 16 #[.slice q l0.length s, .slice t b.length n] w fun e w' => e = .returned (.bool r) ∧ Drawn0 w w' := by
 have X := Try.underlying52; have A := am u; have HC0 := am x; clear u x; have B := am y; have HC1 := am z; clear y z
 have H : (if (l0.length : Int) = (b.length : Int) then (laws_loTies.l0 k l0 b 0) else (some false)) = some r := h
 clear h; by_cases c : (l0.length : Int) = (b.length : Int)
 ·rw [if_pos c] at H; have D : ((l0.length : Int) == (b.length : Int)) = true := beq_iff_eq.mpr c; have E : ((l0.length : Int) != (b.length : Int)) = false := bne_eq_false_iff_eq.mpr c; have G : (l0.length == b.length) = true := by first | simpa using c | (simp at c ⊢; omega)
  clear c; have H' := am H; clear H; go_enter Try.func16, Try.ntmps16; go_wp2
  repeat (go_quiet (fail); try go_wp2)
  go_loopg [5] k (fun kq J w' => ∃ (a : Int), J = .int .i64 a ∧ Aside0 (laws_loTies.l0 kq l0 b a = some r) ∧ Aside0 (kq ≤ k) ∧ Drawn0 w w')
  case atStart => exact ⟨(0), rs_, H', ⟨Nat.le_refl _⟩, by repeat (first | exact Drawn0.refl _ | apply Drawn0.step)⟩
  case round =>
   clear H'; (try clear n c D E G); obtain ⟨a, rfl, HA, I, ⟨m1, rfl⟩⟩ := hrel; cases gk with
   | zero => exact absurd HA.out (by simp [laws_loTies.l0])
   | succ k1 =>
    have H := HA.out; clear HA; simp only [laws_loTies.l0] at H; by_cases l : a < (l0.length : Int)
    ·rw [if_pos l] at H; have K := decide_eq_true l; clear l; obtain ⟨Y, H⟩ := id_ H; obtain ⟨Z, H⟩ := id_ H; by_cases m : (!(((rd_T52 l0 a).f0) == ((rd_T52 b a).f0)) || (!(((rd_T52 l0 a).f1) == ((rd_T52 b a).f1)))) = true
     ·rw [if_pos m] at H; have L : (!(((rd_T52 l0 a).f0) == ((rd_T52 b a).f0)) || (!(((rd_T52 l0 a).f1) == ((rd_T52 b a).f1)))) = true := m; clear m; obtain rfl := Option.some.inj H; have d : 0 ≤ (a : Int) := oa; have g : a < (l0.length : Int) := oa; obtain ⟨M, o, O, P⟩ := at_T52 A.out a d g; cases o; obtain ⟨d, g⟩ := e2_ d g; have i : 0 ≤ (a : Int) := oa; have j : a < (b.length : Int) := oa; obtain ⟨T, p, U, W⟩ := at_T52 B.out a i j; cases p; obtain ⟨i, j⟩ := e2_ i j; go_wp2
      repeat (go_quiet (fail); try go_wp2)
      go_ret
      exact ⟨rs_, by repeat (first | exact Drawn0.refl _ | apply Drawn0.step)⟩
     ·rw [if_neg m] at H; have L : (!(((rd_T52 l0 a).f0) == ((rd_T52 b a).f0)) || (!(((rd_T52 l0 a).f1) == ((rd_T52 b a).f1)))) = false := by simpa using m
      clear m; have H' := am H; clear H; have d : 0 ≤ (a : Int) := oa; have g : a < (l0.length : Int) := oa; obtain ⟨M, o, O, P⟩ := at_T52 A.out a d g; cases o; obtain ⟨d, g⟩ := e2_ d g; have i : 0 ≤ (a : Int) := oa; have j : a < (b.length : Int) := oa; obtain ⟨T, p, U, W⟩ := at_T52 B.out a i j; cases p; obtain ⟨i, j⟩ := e2_ i j; go_wp2
      repeat (go_quiet (fail); try go_wp2)
      go_roundg k1
      case measure => have := I.out; omega
      case rel => exact ⟨(wrap64 (a + 1)), rs_, H', ⟨by have := I.out; omega⟩, by repeat (first | exact Drawn0.refl _ | apply Drawn0.step)⟩
    ·rw [if_neg l] at H; have K := decide_eq_false l; clear l; obtain rfl := Option.some.inj H; go_wp2
     repeat (go_quiet (fail); try go_wp2)
     go_ret
     exact ⟨rs_, by repeat (first | exact Drawn0.refl _ | apply Drawn0.step)⟩
 ·rw [if_neg c] at H; have D : ((l0.length : Int) == (b.length : Int)) = false := beq_eq_false_iff_ne.mpr c; have E : ((l0.length : Int) != (b.length : Int)) = true := bne_iff_ne.mpr c; have G : (l0.length == b.length) = false := by first | simpa using c | (simp at c ⊢; omega)
  obtain rfl := Option.some.inj H; go_enter Try.func16, Try.ntmps16; go_wp2
  repeat (go_quiet (fail); try go_wp2)
  go_ret
  exact ⟨rs_, by repeat (first | exact Drawn0.refl _ | apply Drawn0.step)⟩
/-! ### impl_FlowCount: function 17 -/
def impl_FlowCount.f (k : Nat) (a0_0 : Int) (l0_1 : List (S52)) (a1 : Int) (a2 : Int) : Option (Int) := (impl_twoKnots.f k a0_0 l0_1 a1 a2).bind fun t599 => (if t599 = true then ((impl_Net_flow.f k a0_0 l0_1 a1 a2).bind fun t600 => (some t600)) else (some (-1)))
set_option maxHeartbeats 8000000 in
set_option maxRecDepth 100000 in
theorem impl_FlowCount.calls (k : Nat) (b : Int) (i : Option Addr) (j : Nat) (a : List (S52)) (c : Int) (d : Int) (r : Int) (w : World) (p : Kd.C k52 w i a.length a) (q : a.length ≤ j) (h : impl_FlowCount.f k b a c d = some r) :
  Calls Try.prog 17 #[.agg #[.int .i64 b, .slice i a.length j], .int .i64 c, .int .i64 d] w fun e w' => e = .returned (.int .i64 r) ∧ Below w.heap.size w w' := by
 have z := Try.underlying25; have l := am p; have m := am q; clear p q; have HB := am (Below.refl w.heap.size w)
 have H : ((impl_twoKnots.f k b a c d).bind fun n => (if n = true then ((impl_Net_flow.f k b a c d).bind fun o => (some o)) else (some (-1)))) = some r := h
 clear h; obtain ⟨n, s, H⟩ := bi_ H; by_cases t : n = true
 ·subst t; rw [if_pos rfl] at H; obtain ⟨o, u, H⟩ := bi_ H; obtain rfl := Option.some.inj H; go_enter Try.func17, Try.ntmps17
  go_wp2_with (first | ((with_reducible refine gate_dst (N := 3) rfl ?_); refine bx_ 3 #[.int .i64 b, .slice i a.length j] 25 HB ?_; clear HB; intro x hg w7 hb g y HB; clear hb hg; have A := c2 g) | ((with_reducible refine gate_callee (f := 51) rfl ?_); refine gl_ (some 10) Try.func51 #[.agg #[.int .i64 b, .slice i a.length j], .int .i64 c, .int .i64 d] ?_; (with_reducible refine (impl_twoKnots.calls k b _ _ a c d true _ ?z_1 ?z_2 s.out).mono ?_); (case z_1 => exact cb l HB); (case z_2 => exact m.out); rintro e w9 ⟨rfl, hb⟩; refine ⟨_, rfl, ?_⟩; replace g := bb g hb; replace HB := bs HB hb; (try clear hb); have B := c2 g) | ((with_reducible refine gate_callee (f := 57) rfl ?_); refine gl_ (some 15) Try.func57 #[.agg #[.int .i64 b, .slice i a.length j], .int .i64 c, .int .i64 d] ?_; (with_reducible refine (impl_Net_flow.calls k b _ _ a c d o _ ?z_1 ?z_2 u.out).mono ?_); (case z_1 => exact cb l HB); (case z_2 => exact m.out); rintro e w11 ⟨rfl, hb⟩; refine ⟨_, rfl, ?_⟩; replace g := bb g hb; replace HB := bs HB hb; (try clear hb)))
  go_ret
  exact ⟨er_, bn HB⟩
 ·obtain rfl := nt_ t; rw [if_neg nf_] at H; obtain rfl := Option.some.inj H; go_enter Try.func17, Try.ntmps17
  go_wp2_with (first | ((with_reducible refine gate_dst (N := 3) rfl ?_); refine bx_ 3 #[.int .i64 b, .slice i a.length j] 25 HB ?_; clear HB; intro x hg w12 hb g y HB; clear hb hg; have D := c2 g) | ((with_reducible refine gate_callee (f := 51) rfl ?_); refine gl_ (some 10) Try.func51 #[.agg #[.int .i64 b, .slice i a.length j], .int .i64 c, .int .i64 d] ?_; (with_reducible refine (impl_twoKnots.calls k b _ _ a c d false _ ?z_1 ?z_2 s.out).mono ?_); (case z_1 => exact cb l HB); (case z_2 => exact m.out); rintro e w14 ⟨rfl, hb⟩; refine ⟨_, rfl, ?_⟩; replace g := bb g hb; replace HB := bs HB hb; (try clear hb)))
  go_ret
  exact ⟨er_, bn HB⟩
/-! ### impl_Net_own: function 62 -/
def impl_Net_own.l0 : Nat → List (S52) → List (S52) → Int → Int → Int → List (S52) → Option (Bool)
 | 0, _, _, _, _, _, _ => none
 | k + 1, x1, x7, x8, x9, x602000, x602001 => if x9 < x8 then (if 0 ≤ x9 then (if x9 < (x7.length : Int) then ((slices_Contains_impl_Tie_impl_Tie.f k x602001 ((rd_T52 x7 x9).f0) ((rd_T52 x7 x9).f1)).bind fun t604 => (if t604 = true then (impl_Net_own.l0 k x1 x7 x8 (wrap64 (x9 + 1)) x602000 x602001) else (some false))) else (none)) else (none)) else ((impl_ascending.f k x1).bind fun t605 => (some t605))
def impl_Net_own.f (k : Nat) (a0_0 : Int) (l0_1 : List (S52)) (l1 : List (S52)) : Option (Bool) := impl_Net_own.l0 k l1 l1 (l1.length : Int) 0 a0_0 l0_1
set_option maxHeartbeats 8000000 in
set_option maxRecDepth 100000 in
theorem impl_Net_own.calls (k : Nat) (l : Int) (m : Option Addr) (n : Nat) (d : List (S52)) (t : Option Addr) (s : Nat) (a : List (S52)) (r : Bool) (w : World) (A : Kd.C k52 w m d.length d) (B : d.length ≤ n) (D : Kd.C k52 w t a.length a) (E : a.length ≤ s) (h : impl_Net_own.f k l d a = some r) :
  Calls Try.prog 62 #[.agg #[.int .i64 l, .slice m d.length n], .slice t a.length s] w fun e w' => e = .returned (.bool r) ∧ Below w.heap.size w w' := by
 have ab := Try.underlying25; have ad := Try.underlying52; have G := am A; have I := am B; clear A B; have u := am D; have M := am E; clear D E; have HB := am (Below.refl w.heap.size w)
 have H : (impl_Net_own.l0 k a a (a.length : Int) 0 l d) = some r := h
 clear h; have H' := am H; clear H; go_enter Try.func62, Try.ntmps62
 go_wp2_with (first | ((with_reducible refine gate_dst (N := 2) rfl ?_); refine bx_ 2 #[.int .i64 l, .slice m d.length n] 25 HB ?_; clear HB; intro O hg w3 hb c ae HB; clear hb hg))
 go_loopg [9] k (fun kq P w' => ∃ (b : Int), P = .int .i64 b ∧ Aside0 (impl_Net_own.l0 kq a a (a.length : Int) b l d = some r) ∧ Aside0 (kq ≤ k) ∧ Bk w' O (.cells #[.int .i64 l, (.slice m d.length n)] 25 (0, 0)) ∧ Aside0 (Below w.heap.size w w'))
 case atStart => exact ⟨(0), rs_, H', ⟨Nat.le_refl _⟩, ⟨bkn c⟩, ⟨bn HB⟩⟩
 case round =>
  clear H'; (try clear s); obtain ⟨b, rfl, HA, J, c, HB⟩ := hrel; cases gk with
  | zero => exact absurd HA.out (by simp [impl_Net_own.l0])
  | succ k1 =>
   have H := HA.out; clear HA; simp only [impl_Net_own.l0] at H; by_cases o : b < (a.length : Int)
   ·rw [if_pos o] at H; have T := decide_eq_true o; clear o; obtain ⟨af, H⟩ := id_ H; obtain ⟨ag, H⟩ := id_ H; obtain ⟨U, K, H⟩ := bi_ H; by_cases L : U = true
    ·subst L; rw [if_pos rfl] at H; have H' := am H; clear H; have g : 0 ≤ (b : Int) := oa; have i : b < (a.length : Int) := oa; obtain ⟨W, x, p, q⟩ := at_T52 u.out b g i; cases x; replace p := hc_ HB p; replace q := hc_ HB q; obtain ⟨g, i⟩ := e2_ g i
     go_wp2_with (first | ((with_reducible refine gate_dst (N := 6) rfl ?_); refine bx_ 6 #[.int .i64 0, .int .i64 0] 52 HB ?_; clear HB; intro X hg w9 hb j Y HB; obtain ⟨y, z⟩ := nb_ hg c; replace c := bb c hb; clear hb hg; have ah := n2 z y; have ai := c2 j; have aj := c2 c) | ((with_reducible refine gate_callee (f := 73) rfl ?_); refine gl_ (some 16) Try.func73 #[.slice m d.length n, .agg #[.int .i64 ((rd_T52 a b).f0), .int .i64 ((rd_T52 a b).f1)]] ?_; (with_reducible refine (slices_Contains_impl_Tie_impl_Tie.calls k1 _ _ d ((rd_T52 a b).f0) ((rd_T52 a b).f1) true _ ?z_1 ?z_2 K.out).mono ?_); (case z_1 => exact Kd.C_below G.out (bn HB)); (case z_2 => exact I.out); rintro e w13 ⟨rfl, hb⟩; refine ⟨_, rfl, ?_⟩; replace c := bb c hb; replace j := bb j hb; replace HB := bs HB hb; (try clear hb)))
     go_roundg k1
     case measure => have := J.out; omega
     case rel => exact ⟨(wrap64 (b + 1)), rs_, H', ⟨by have := J.out; omega⟩, ⟨bkn c⟩, ⟨bn HB⟩⟩
    ·obtain rfl := nt_ L; rw [if_neg nf_] at H; obtain rfl := Option.some.inj H; have g : 0 ≤ (b : Int) := oa; have i : b < (a.length : Int) := oa; obtain ⟨W, x, p, q⟩ := at_T52 u.out b g i; cases x; replace p := hc_ HB p; replace q := hc_ HB q; obtain ⟨g, i⟩ := e2_ g i
     go_wp2_with (first | ((with_reducible refine gate_dst (N := 6) rfl ?_); refine bx_ 6 #[.int .i64 0, .int .i64 0] 52 HB ?_; clear HB; intro X hg w14 hb j Y HB; obtain ⟨y, z⟩ := nb_ hg c; replace c := bb c hb; clear hb hg; have ak := n2 z y; have al := c2 j; have an := c2 c) | ((with_reducible refine gate_callee (f := 73) rfl ?_); refine gl_ (some 16) Try.func73 #[.slice m d.length n, .agg #[.int .i64 ((rd_T52 a b).f0), .int .i64 ((rd_T52 a b).f1)]] ?_; (with_reducible refine (slices_Contains_impl_Tie_impl_Tie.calls k1 _ _ d ((rd_T52 a b).f0) ((rd_T52 a b).f1) false _ ?z_1 ?z_2 K.out).mono ?_); (case z_1 => exact Kd.C_below G.out (bn HB)); (case z_2 => exact I.out); rintro e w18 ⟨rfl, hb⟩; refine ⟨_, rfl, ?_⟩; replace c := bb c hb; replace j := bb j hb; replace HB := bs HB hb; (try clear hb)))
     go_ret
     exact ⟨er_, bn HB⟩
   ·rw [if_neg o] at H; have T := decide_eq_false o; clear o; obtain ⟨Z, aa, H⟩ := bi_ H; obtain rfl := Option.some.inj H
    go_wp2_with (first | ((with_reducible refine gate_callee (f := 100) rfl ?_); refine gl_ (some 20) Try.func100 #[.slice t a.length s] ?_; (with_reducible refine (impl_ascending.calls k1 _ _ a Z _ ?z_1 ?z_2 aa.out).mono ?_); (case z_1 => exact cb u HB); (case z_2 => exact M.out); rintro e w20 ⟨rfl, hb⟩; refine ⟨_, rfl, ?_⟩; replace c := bb c hb; replace HB := bs HB hb; (try clear hb)))
    go_ret
    exact ⟨er_, bn HB⟩
/-! ### impl_Net_parts: function 101 -/
mutual
def impl_Net_parts.l0 : Nat → List Int → Int → Int → Int → List (S52) → Option (List Int)
 | 0, _, _, _, _, _ => none
 | k + 1, x3, x11, x12, x607000, x607001 => if x12 < x11 then (if x3.length < 17592186044416 then (impl_Net_parts.l0 k (x3 ++ [x12]) x11 (wrap64 (x12 + 1)) x607000 x607001) else (none)) else (impl_Net_parts.l1 k x3 true x607000 x607001)
def impl_Net_parts.l1 : Nat → List Int → Bool → Int → List (S52) → Option (List Int)
 | 0, _, _, _, _ => none
 | k + 1, x3, x5, x607000, x607001 => if x5 = true then (impl_Net_parts.l2 k x3 false x607001 (x607001.length : Int) 0 x607000 x607001) else (some x3)
def impl_Net_parts.l2 : Nat → List Int → Bool → List (S52) → Int → Int → Int → List (S52) → Option (List Int)
 | 0, _, _, _, _, _, _, _ => none
 | k + 1, x3, x5, x22, x23, x24, x607000, x607001 => if x24 < x23 then (if 0 ≤ x24 then (if x24 < (x22.length : Int) then (if 0 ≤ ((rd_T52 x22 x24).f0) then (if ((rd_T52 x22 x24).f0) < (x3.length : Int) then (if 0 ≤ ((rd_T52 x22 x24).f1) then (if ((rd_T52 x22 x24).f1) < (x3.length : Int) then (if (rd x3 ((rd_T52 x22 x24).f0)) = (rd x3 ((rd_T52 x22 x24).f1)) then (impl_Net_parts.l2 k x3 x5 x22 x23 (wrap64 (x24 + 1)) x607000 x607001) else (impl_Net_parts.l2 k ((x3.set (((rd_T52 x22 x24).f0) : Int).toNat (mn (rd x3 ((rd_T52 x22 x24).f0)) (rd x3 ((rd_T52 x22 x24).f1)))).set (((rd_T52 x22 x24).f1) : Int).toNat (mn (rd x3 ((rd_T52 x22 x24).f0)) (rd x3 ((rd_T52 x22 x24).f1)))) true x22 x23 (wrap64 (x24 + 1)) x607000 x607001)) else (none)) else (none)) else (none)) else (none)) else (none)) else (none)) else (impl_Net_parts.l1 k x3 x5 x607000 x607001)
end
def impl_Net_parts.f (k : Nat) (a0_0 : Int) (l0_1 : List (S52)) : Option (List Int) := impl_Net_parts.l0 k (([] : List Int)) a0_0 0 a0_0 l0_1
def impl_Net_parts.T13 : Bool × List (List Nat × List Nat) := (true, [([], []), ([], []), ([1], [1]), ([0, 2], [0, 2]), ([3], [3]), ([], []), ([], []), ([6], [6]), ([5, 7], [5, 7]), ([8], [8]), ([4, 9], [4, 9]), ([10, 0, 1, 2, 3, 4, 5, 6, 7, 8, 9, 10], [10])])
def impl_Net_parts.B13 : List Nat := [0, 0, 2, 7, 15, 0, 0, 64, 224, 480, 1023, 2047]
theorem impl_Net_parts.tab13 : rtab .any (opsOf Try.f101 13) = impl_Net_parts.T13 := by kernel_rfl
theorem impl_Net_parts.bits13 : waitsOk impl_Net_parts.T13.2 impl_Net_parts.B13 = true := by kernel_rfl
def impl_Net_parts.T14 : Bool × List (List Nat × List Nat) := (true, [([], []), ([], []), ([1], [1]), ([0, 2], [0, 2]), ([3], [3]), ([], []), ([], []), ([6], [6]), ([5, 7], [5, 7]), ([8], [8]), ([4, 9], [4, 9])])
def impl_Net_parts.B14 : List Nat := [0, 0, 2, 7, 15, 0, 0, 64, 224, 480, 1023]
theorem impl_Net_parts.tab14 : rtab .any (opsOf Try.f101 14) = impl_Net_parts.T14 := by kernel_rfl
theorem impl_Net_parts.bits14 : waitsOk impl_Net_parts.T14.2 impl_Net_parts.B14 = true := by kernel_rfl
def impl_Net_parts.T15 : Bool × List (List Nat × List Nat) := (true, [([], []), ([], []), ([1], [1]), ([], []), ([], []), ([4], [4]), ([], []), ([], []), ([0, 2, 0, 1, 2, 6], [0, 2]), ([8, 6, 0, 1, 2, 6], [6, 8]), ([3, 5, 0, 1, 2, 3, 4, 5, 6, 7, 8, 9], [3, 5]), ([10, 7, 9, 0, 1, 2, 3, 4, 5, 6, 7, 8, 9], [7, 10])])
def impl_Net_parts.B15 : List Nat := [0, 0, 2, 0, 0, 16, 0, 0, 71, 327, 1023, 2047]
theorem impl_Net_parts.tab15 : rtab .any (opsOf Try.f101 15) = impl_Net_parts.T15 := by kernel_rfl
theorem impl_Net_parts.bits15 : waitsOk impl_Net_parts.T15.2 impl_Net_parts.B15 = true := by kernel_rfl
set_option maxHeartbeats 8000000 in
set_option maxRecDepth 100000 in
theorem impl_Net_parts.calls (k : Nat) (p : Int) (Y : Option Addr) (Z : Nat) (a : List (S52)) (r : List Int) (w : World) (aX : Kd.C k52 w Y a.length a) (aY : a.length ≤ Z) (h : impl_Net_parts.f k p a = some r) :
  Calls Try.prog 101 #[.agg #[.int .i64 p, .slice Y a.length Z]] w fun e w' => ∃ aZ : Value, e = .returned (aZ) ∧ Kd.R (Kd.int .i64) 3 w' w.heap.size (fun _ => True) aZ r ∧ Below w.heap.size w w' := by
 have bQ := Try.underlying25; have bR := Try.underlying52; have a0 := am aX; have bS := am aY; clear aX aY; have HB := am (Below.refl w.heap.size w)
 have H : (impl_Net_parts.l0 k (([] : List Int)) p 0 p a) = some r := h
 clear h; obtain ⟨a1, an⟩ : ∃ y_ : List Int, y_ = (([] : List Int)) := ⟨_, rfl⟩; replace H : (impl_Net_parts.l0 k a1 p 0 p a) = some r := nh_ an H; have a2 := am an; clear an; have H' := am H; clear H; go_enter Try.func101, Try.ntmps101
 go_wp2_with (first | ((with_reducible refine gate_dst (N := 1) rfl ?_); refine bx_ 1 #[.int .i64 p, .slice Y a.length Z] 25 HB ?_; clear HB; intro ap hg w2 hb j bi HB; clear hb hg) | ((with_reducible refine gate_dst (N := 9) rfl ?_); refine Kd.R_lit (Kd.int .i64) _ 3 ?hg (N := 9) ?hd (xs := ([] : List Int)) (inner := []) (ok := fun _ => True) (okp := fun _ => True) ?hr ?hp (fun _ hk => hk) trivial (Below.refl _ _) (Nat.le_refl _) (by simp) ?_; (case hd => rfl); (case hg => rfl); (case hr => first | (go_simp; done) | (go_simp; rfl)); (case hp => exact (Reps.none _ _)); intro bT w3 ag hb bj bk; clear bj bk; (first | rw [← a2.out] at ag | (simp only [Int.reduceToNat] at ag; rw [← a2.out] at ag)); have bl := am (Kd.R_lower ag (below_size (bn HB))); replace j := bb j hb; replace HB := bs HB hb; clear hb ag; have aq := c2 j))
 go_loopg [3, 12] k (fun kq v3 bo w' => ∃ (aa : List Int) (s : Int), bo = .int .i64 s ∧ Aside0 (impl_Net_parts.l0 kq aa p s p a = some r) ∧ Aside0 (kq ≤ k) ∧ Aside0 (Kd.R (Kd.int .i64) 3 w' w.heap.size (fun _ => True) v3 aa) ∧ Bk w' ap (.cells #[.int .i64 p, (.slice Y a.length Z)] 25 (0, 0)) ∧ Aside0 (Below w.heap.size w w'))
 case atStart => exact ⟨(a1), (0), rs_, H', ⟨Nat.le_refl _⟩, ⟨onR bl⟩, ⟨bkn j⟩, ⟨bn HB⟩⟩
 case round =>
  clear H'; (try clear aq); obtain ⟨aa, s, rfl, HA, t, g, j, HB⟩ := hrel; cases gk with
  | zero => exact absurd HA.out (by simp [impl_Net_parts.l0])
  | succ k1 =>
   have H := HA.out; clear HA; simp only [impl_Net_parts.l0] at H; by_cases u : s < p
   ·rw [if_pos u] at H; have ar := decide_eq_true u; clear u; obtain ⟨c7, H⟩ := ig_ H; have bp := am c7; clear c7; obtain ⟨a3, au⟩ : ∃ y_ : List Int, y_ = (aa ++ [s]) := ⟨_, rfl⟩; replace H : (impl_Net_parts.l0 k1 a3 p (wrap64 (s + 1)) p a) = some r := nh_ au H; have br := am au; clear au; have H' := am H; clear H
    go_wp2_with (first | ((with_reducible refine gate_builtin (b := .append) (xs := #[.tmp 15, .tmp 17]) rfl ?_); at_builtin; refine Kd.R_append (Kd.int .i64) (w0 := w) w.heap.size rfl (.tmp 15) (.tmp 17) 30 3 (.int .i64 0) 8 rfl Try.underlying30 info3 rfl (by decide) (by omega) u3 aa s [.int .i64 s] (fun _ => True) (fun _ => False) rfl rfl ?aP (fun _ hk => hk.elim) ?aF ?aO ?aB ?aS ?aL ?_; (case aP => exact rfl); (case aB => exact (bn HB)); (case aF => exact (fun _ _ => trivial)); (case aO => exact (onR g)); (case aS => exact (below_size (bn HB))); (case aL => have := bp.out; omega); intro bU w8 ho hb hg bu; rw [← br.out] at ho; replace j := bm (blk_grown (bkn j) hg (Kd.R_ne g.out j.out (by decide))); replace HB := am hb; have bv := am ho; clear g; clear ho hb hg bu))
    go_roundg k1
    case measure => have := t.out; omega
    case rel => exact ⟨(a3), (wrap64 (s + 1)), rs_, H', ⟨by have := t.out; omega⟩, ⟨onR bv⟩, ⟨bkn j⟩, ⟨bn HB⟩⟩
   ·rw [if_neg u] at H; have ar := decide_eq_false u; clear u; have H' := am H; clear H; go_wp2
    go_loopg [5] k1 (fun kq v5 w' => ∃ (ak : List Int) (al : Bool), v5 = .bool al ∧ Aside0 (impl_Net_parts.l1 kq ak al p a = some r) ∧ Aside0 (kq ≤ k1) ∧ Aside0 (Kd.R (Kd.int .i64) 3 w' w.heap.size (fun _ => True) u3 ak) ∧ Bk w' ap (.cells #[.int .i64 p, (.slice Y a.length Z)] 25 (0, 0)) ∧ Aside0 (Below w.heap.size w w'))
    case atStart => exact ⟨(aa), (true), rs_, H', ⟨Nat.le_refl _⟩, ⟨onR g⟩, ⟨bkn j⟩, ⟨bn HB⟩⟩
    case round =>
     clear H'; (try clear u ar c7 aq); obtain ⟨ak, al, rfl, HA, ab, g, j, HB⟩ := hrel; cases gk with
     | zero => exact absurd HA.out (by simp [impl_Net_parts.l1])
     | succ k2 =>
      have H := HA.out; clear HA; simp only [impl_Net_parts.l1] at H; by_cases c9 : al = true
      ·subst c9; rw [if_pos rfl] at H; have H' := am H; clear H; have bw := c2 j; go_wp2
       go_loopg [5, 24] k2 (fun kq v5 bx w' => ∃ (l : List Int) (ad : Bool) (c : Int), v5 = .bool ad ∧ bx = .int .i64 c ∧ Aside0 (impl_Net_parts.l2 kq l ad a (a.length : Int) c p a = some r) ∧ Aside0 (kq ≤ k2) ∧ Aside0 (Kd.R (Kd.int .i64) 3 w' w.heap.size (fun _ => True) u3 l) ∧ Bk w' ap (.cells #[.int .i64 p, (.slice Y a.length Z)] 25 (0, 0)) ∧ Aside0 (Below w.heap.size w w'))
       case atStart => exact ⟨(ak), (false), (0), rs_, rs_, H', ⟨Nat.le_refl _⟩, ⟨onR g⟩, ⟨bkn j⟩, ⟨bn HB⟩⟩
       case round =>
        clear H'; (try clear u ar c7 c9 bw aq); obtain ⟨l, ad, c, rfl, rfl, HA, ae, g, j, HB⟩ := hrel; cases gk with
        | zero => exact absurd HA.out (by simp [impl_Net_parts.l2])
        | succ k3 =>
         have H := HA.out; clear HA; simp only [impl_Net_parts.l2] at H; by_cases af : c < (a.length : Int)
         ·rw [if_pos af] at H; have bz := decide_eq_true af; clear af; obtain ⟨bV, H⟩ := id_ H; obtain ⟨bW, H⟩ := id_ H; obtain ⟨bX, H⟩ := id_ H; obtain ⟨bY, H⟩ := id_ H; obtain ⟨bZ, H⟩ := id_ H; obtain ⟨b0, H⟩ := id_ H; obtain ⟨x, av⟩ : ∃ j_ : Int, (mn (rd l ((rd_T52 a c).f0)) (rd l ((rd_T52 a c).f1))) = j_ := ⟨_, rfl⟩; replace H : (if (rd l ((rd_T52 a c).f0)) = (rd l ((rd_T52 a c).f1)) then (impl_Net_parts.l2 k3 l ad a (a.length : Int) (wrap64 (c + 1)) p a) else (impl_Net_parts.l2 k3 ((l.set (((rd_T52 a c).f0) : Int).toNat (x)).set (((rd_T52 a c).f1) : Int).toNat (x)) true a (a.length : Int) (wrap64 (c + 1)) p a)) = some r := by first | (rw [av] at H; exact H) | (simp only [av] at H ⊢; exact H)
          have b1 : (if (rd l ((rd_T52 a c).f1)) < (rd l ((rd_T52 a c).f0)) then (rd l ((rd_T52 a c).f1)) else (rd l ((rd_T52 a c).f0))) = x := av; by_cases y : (rd l ((rd_T52 a c).f0)) = (rd l ((rd_T52 a c).f1))
          ·rw [if_pos y] at H; have bA : ((rd l ((rd_T52 a c).f0)) == (rd l ((rd_T52 a c).f1))) = true := beq_iff_eq.mpr y; have bB : ((rd l ((rd_T52 a c).f0)) != (rd l ((rd_T52 a c).f1))) = false := bne_eq_false_iff_eq.mpr y; clear y; have H' := am H; clear H; have z : 0 ≤ (c : Int) := oa; have A : c < (a.length : Int) := oa; obtain ⟨bC, aw, ah, ai⟩ := at_T52 a0.out c z A; cases aw; replace ah := hc_ HB ah; replace ai := hc_ HB ai; obtain ⟨z, A⟩ := e2_ z A
           try go_wp2_with (first | ((with_reducible refine gate_dst (N := 7) rfl ?_); refine bx_ 7 #[.int .i64 0, .int .i64 0] 52 HB ?_; clear HB; intro aj hg bD hb m a4 HB; replace g := am (Kd.R_below (onR g) hb); obtain ⟨ax, ay⟩ := nb_ hg j; replace j := bb j hb; clear hb hg; have b2 := n2 ay ax; have b3 := c2 m))
           obtain ⟨a5, q⟩ := nw_ ((bD.setCell ⟨aj, 0, none⟩ (.int .i64 ((rd_T52 a c).f0))).setCell ⟨aj, 1, none⟩ (.int .i64 ((rd_T52 a c).f1))); replace g : Aside0 (Kd.R (Kd.int .i64) 3 a5 w.heap.size (fun _ => True) u3 l) := (by rw [q]; exact ⟨Kd.R_mono (onR g) (fun _ hk => trivial)⟩); replace g := dR g; replace j := tD q j; replace m := tD q m; replace HB := tM q HB; rw [← q]; clear q; obtain ⟨b4, b5, a6⟩ := Kd.R_slice g.out; (first | subst a6 | (injection a6 with f1_ f2_ f3_; have az := f1_.symm; have aA := f3_.symm; clear f1_ f2_ f3_; subst az; subst aA)); have B : 0 ≤ (((rd_T52 a c).f0) : Int) := oa; have D : ((rd_T52 a c).f0) < (l.length : Int) := oa; obtain ⟨E, aC, G⟩ := Kd.at_int (Kd.R_reads' g.out).2.2 ((rd_T52 a c).f0) B D; cases aC; obtain ⟨B, D⟩ := e2_ B D; have I : 0 ≤ (((rd_T52 a c).f1) : Int) := oa; have J : ((rd_T52 a c).f1) < (l.length : Int) := oa; obtain ⟨aD, aE, L⟩ := Kd.at_int (Kd.R_reads' g.out).2.2 ((rd_T52 a c).f1) I J; obtain rfl : E = aD := (by injection aE); obtain ⟨I, J⟩ := e2_ I J; refine s4_ 12 [] (bq m 0) (bq m 1) G L (fun n => ?_); refine with_tabW impl_Net_parts.tab13 impl_Net_parts.bits13 (fun d o => ?_); generalize a5.drew = bE at g j m HB G L n ⊢; refine pz_ 0 d ?_; refine pz_ 1 d ?_; refine pz_ 5 d ?_; refine pz_ 6 d ?_; refine tz_ 2 d o n ?_; refine pz_ 3 d ?_; refine tz_ 4 d o n ?_; refine tz_ 7 d o n ?_; refine pz_ 8 d ?_; refine tz_ 9 d o n ?_; refine pz_ 10 d ?_; refine pz_ 11 d ?_; refine done_ (done_of d.out (by kernel_rfl)) ?_; try go_wp2
           replace g := dR g; replace j := dB j; replace m := dB m; replace HB := dL HB; have M : 0 ≤ (((rd_T52 a c).f0) : Int) := oa; have O : ((rd_T52 a c).f0) < (l.length : Int) := oa; obtain ⟨aG, aH, P⟩ := Kd.at_int (Kd.R_reads' g.out).2.2 ((rd_T52 a c).f0) M O; obtain rfl : E = aG := (by injection aH); obtain ⟨M, O⟩ := e2_ M O; have T : 0 ≤ (((rd_T52 a c).f1) : Int) := oa; have U : ((rd_T52 a c).f1) < (l.length : Int) := oa; obtain ⟨aI, aJ, W⟩ := Kd.at_int (Kd.R_reads' g.out).2.2 ((rd_T52 a c).f1) T U; obtain rfl : E = aI := (by injection aJ); obtain ⟨T, U⟩ := e2_ T U; refine s4_ 11 [] (bq m 0) (bq m 1) P W (fun n => ?_); refine with_tabW impl_Net_parts.tab14 impl_Net_parts.bits14 (fun d o => ?_); generalize bE.drew = w26 at g j m HB P W n ⊢; refine pz_ 0 d ?_; refine pz_ 1 d ?_; refine pz_ 5 d ?_; refine pz_ 6 d ?_; refine tz_ 2 d o n ?_; refine pz_ 3 d ?_; refine tz_ 4 d o n ?_; refine tz_ 7 d o n ?_; refine pz_ 8 d ?_; refine tz_ 9 d o n ?_; refine pz_ 10 d ?_; refine done_ (done_of d.out (by kernel_rfl)) ?_; try go_wp2
           go_roundg k3
           case measure => have := t.out; have := ab.out; have := ae.out; omega
           case rel => exact ⟨(l), (ad), (wrap64 (c + 1)), rs_, rs_, H', ⟨by have := t.out; have := ab.out; have := ae.out; omega⟩, ⟨onR g⟩, ⟨bkn j⟩, ⟨bn HB⟩⟩
          ·rw [if_neg y] at H; have bA : ((rd l ((rd_T52 a c).f0)) == (rd l ((rd_T52 a c).f1))) = false := beq_eq_false_iff_ne.mpr y; have bB : ((rd l ((rd_T52 a c).f0)) != (rd l ((rd_T52 a c).f1))) = true := bne_iff_ne.mpr y; obtain ⟨a7, aK⟩ : ∃ y_ : List Int, y_ = (l.set (((rd_T52 a c).f0) : Int).toNat (x)) := ⟨_, rfl⟩; replace H : (impl_Net_parts.l2 k3 (a7.set (((rd_T52 a c).f1) : Int).toNat (x)) true a (a.length : Int) (wrap64 (c + 1)) p a) = some r := nh_ aK H; have bF := am aK; clear aK; obtain ⟨a8, aM⟩ : ∃ y_ : List Int, y_ = (a7.set (((rd_T52 a c).f1) : Int).toNat (x)) := ⟨_, rfl⟩; replace H : (impl_Net_parts.l2 k3 a8 true a (a.length : Int) (wrap64 (c + 1)) p a) = some r := nh_ aM H; have bG := am aM; clear aM; have H' := am H; clear H; have z : 0 ≤ (c : Int) := oa; have A : c < (a.length : Int) := oa; obtain ⟨bC, aw, ah, ai⟩ := at_T52 a0.out c z A; cases aw; replace ah := hc_ HB ah; replace ai := hc_ HB ai; obtain ⟨z, A⟩ := e2_ z A
           try go_wp2_with (first | ((with_reducible refine gate_dst (N := 7) rfl ?_); refine bx_ 7 #[.int .i64 0, .int .i64 0] 52 HB ?_; clear HB; intro aj hg bH hb m a4 HB; replace g := am (Kd.R_below (onR g) hb); obtain ⟨ax, ay⟩ := nb_ hg j; replace j := bb j hb; clear hb hg; have b6 := n2 ay ax; have b7 := c2 m))
           obtain ⟨a9, q⟩ := nw_ ((bH.setCell ⟨aj, 0, none⟩ (.int .i64 ((rd_T52 a c).f0))).setCell ⟨aj, 1, none⟩ (.int .i64 ((rd_T52 a c).f1))); replace g : Aside0 (Kd.R (Kd.int .i64) 3 a9 w.heap.size (fun _ => True) u3 l) := (by rw [q]; exact ⟨Kd.R_mono (onR g) (fun _ hk => trivial)⟩); replace g := dR g; replace j := tD q j; replace m := tD q m; replace HB := tM q HB; rw [← q]; clear q; obtain ⟨b8, b9, ba⟩ := Kd.R_slice g.out; (first | subst ba | (injection ba with f1_ f2_ f3_; have az := f1_.symm; have aA := f3_.symm; clear f1_ f2_ f3_; subst az; subst aA)); have B : 0 ≤ (((rd_T52 a c).f0) : Int) := oa; have D : ((rd_T52 a c).f0) < (l.length : Int) := oa; obtain ⟨E, aC, G⟩ := Kd.at_int (Kd.R_reads' g.out).2.2 ((rd_T52 a c).f0) B D; cases aC; obtain ⟨B, D⟩ := e2_ B D; have I : 0 ≤ (((rd_T52 a c).f1) : Int) := oa; have J : ((rd_T52 a c).f1) < (l.length : Int) := oa; obtain ⟨aD, aE, L⟩ := Kd.at_int (Kd.R_reads' g.out).2.2 ((rd_T52 a c).f1) I J; obtain rfl : E = aD := (by injection aE); obtain ⟨I, J⟩ := e2_ I J; refine s4_ 12 [] (bq m 0) (bq m 1) G L (fun n => ?_); refine with_tabW impl_Net_parts.tab13 impl_Net_parts.bits13 (fun d o => ?_); generalize a9.drew = bI at g j m HB G L n ⊢; refine pz_ 0 d ?_; refine pz_ 1 d ?_; refine pz_ 5 d ?_; refine pz_ 6 d ?_; refine tz_ 2 d o n ?_; refine pz_ 3 d ?_; refine tz_ 4 d o n ?_; refine tz_ 7 d o n ?_; refine pz_ 8 d ?_; refine tz_ 9 d o n ?_; refine pz_ 10 d ?_; refine pz_ 11 d ?_; refine done_ (done_of d.out (by kernel_rfl)) ?_; try go_wp2
           replace g := dR g; replace j := dB j; replace m := dB m; replace HB := dL HB; have M : 0 ≤ (((rd_T52 a c).f0) : Int) := oa; have O : ((rd_T52 a c).f0) < (l.length : Int) := oa; obtain ⟨aG, aH, P⟩ := Kd.at_int (Kd.R_reads' g.out).2.2 ((rd_T52 a c).f0) M O; obtain rfl : E = aG := (by injection aH); obtain ⟨M, O⟩ := e2_ M O; have T : 0 ≤ (((rd_T52 a c).f1) : Int) := oa; have U : ((rd_T52 a c).f1) < (l.length : Int) := oa; obtain ⟨aI, aJ, W⟩ := Kd.at_int (Kd.R_reads' g.out).2.2 ((rd_T52 a c).f1) T U; obtain rfl : E = aI := (by injection aJ); obtain ⟨T, U⟩ := e2_ T U; refine s4_ 11 [] (bq m 0) (bq m 1) P W (fun n => ?_); refine with_tabW impl_Net_parts.tab14 impl_Net_parts.bits14 (fun d o => ?_); generalize bI.drew = bJ at g j m HB P W n ⊢; refine pz_ 0 d ?_; refine pz_ 1 d ?_; refine pz_ 5 d ?_; refine pz_ 6 d ?_; refine tz_ 2 d o n ?_; refine pz_ 3 d ?_; refine tz_ 4 d o n ?_; refine tz_ 7 d o n ?_; refine pz_ 8 d ?_; refine tz_ 9 d o n ?_; refine pz_ 10 d ?_; refine done_ (done_of d.out (by kernel_rfl)) ?_; try go_wp2
           replace g := dR g; replace j := dB j; replace m := dB m; replace HB := dL HB; have aN : 0 ≤ (((rd_T52 a c).f0) : Int) := oa; have aQ : (((rd_T52 a c).f0) : Int) < ((l.length : Int) : Int) := oa; obtain ⟨ca, cc, bd, be, bK, cd, bf⟩ := Kd.R_form g.out (by omega); (first | cases bd | (injection bd with ea_ en_ ec_; (first | subst ea_ | (injection ea_ with ea_; subst ea_)); subst ec_; clear en_)); have bg := am be; have bL := am bf; clear be bK bf; (first | simp only [add_plain] at G | skip); (first | simp only [add_plain] at L | skip); (first | simp only [add_plain] at P | skip); (first | simp only [add_plain] at W | skip); obtain ⟨bM, bN⟩ := Kd.R_celln 0 g.out (((rd_T52 a c).f0) : Int) aN aQ; obtain ⟨aN, aQ⟩ := e2_ aN aQ; have aR := Kd.R_putn g.out (((rd_T52 a c).f0) : Int) x; rw [← bF.out] at aR; have aT := am aR; clear aR; have aU : 0 ≤ (((rd_T52 a c).f1) : Int) := oa; have aV : (((rd_T52 a c).f1) : Int) < ((l.length : Int) : Int) := oa; obtain ⟨bO, bP⟩ := Kd.R_celln 0 aT.out (((rd_T52 a c).f1) : Int) aU aV; obtain ⟨aU, aV⟩ := e2_ aU aV; have aW := Kd.R_putn aT.out (((rd_T52 a c).f1) : Int) x; rw [← bG.out] at aW; have bh := am aW; clear aW; refine s2_ 12 [11] (bq m 0) (bq m 1) (fun n => ?_); refine with_tabW impl_Net_parts.tab15 impl_Net_parts.bits15 (fun d o => ?_); generalize bJ.drew = w36 at g j m HB bL aT bh bN bP bM bO G L P W n ⊢; refine pz_ 0 d ?_; refine pz_ 1 d ?_; refine pz_ 3 d ?_; refine pz_ 4 d ?_; refine pz_ 6 d ?_; refine pz_ 7 d ?_; refine tz_ 2 d o n ?_; refine pz_ 8 d ?_; refine tz_ 5 d o n ?_; refine on_ 9 d (fun K hK => ?_); refine skip_ (w1 := ?_) (by rfl) rfl ?_ ?_
           rotate_left
           ·go_simp
            rfl
           refine hK.out _ _ ⟨((cell_far (by have X := Kd.R_ne g.out m.out (by decide); intro q; exact X ((congrArg some q).trans rfl)) _).trans (n.1)), ((cell_far (by have X := Kd.R_ne g.out m.out (by decide); intro q; exact X ((congrArg some q).trans rfl)) _).trans (n.2))⟩ (fun n => ?_); clear hK K; refine pz_ 10 d ?_; refine last_ (i := 11) (N := none) #[true, true, true, true, true, true, true, true, true, true, true, true] rfl rfl (one_of d.out (by kernel_rfl)) (by decide) (fun K hK => ?_); refine skip_ (w1 := ?_) (by rfl) rfl ?_ ?_
           rotate_left
           ·go_simp
            rfl
           refine hK.out _ _ ?_; clear hK K; refine done_ (done_of d.out (by kernel_rfl)) ?_; try go_wp2
           go_roundg k3
           case measure => have := t.out; have := ab.out; have := ae.out; omega
           case rel => exact ⟨(a8), (true), (wrap64 (c + 1)), rs_, rs_, H', ⟨by have := t.out; have := ab.out; have := ae.out; omega⟩, ⟨bh.out⟩, ⟨by (with_reducible repeat (first | refine blk_drewN ?_ _ | refine blk_drew ?_ | refine blk_alloc ?_ _)); refine blk_far ?_ (by have X := Kd.R_ne g.out j.out (by decide); intro q; exact X (by rw [q]; rfl)) _; (with_reducible repeat (first | refine blk_drewN ?_ _ | refine blk_drew ?_ | refine blk_alloc ?_ _)); refine blk_far ?_ (by have X := Kd.R_ne g.out j.out (by decide); intro q; exact X (by rw [q]; rfl)) _; (with_reducible repeat (first | refine blk_drewN ?_ _ | refine blk_drew ?_ | refine blk_alloc ?_ _)); exact j.out⟩, ⟨by repeat (first | (with_reducible first | exact HB.out | apply below_alloc | apply pw_below_drewN | apply below_drew1 | refine below_set ?_ bg.out | refine below_set ?_ bg.out | refine below_set ?_ bi.out | refine below_set ?_ a4.out) | exact HB.out)⟩⟩
         ·rw [if_neg af] at H; have bz := decide_eq_false af; clear af; have H' := am H; clear H; go_wp2
          go_roundg k3
          case measure => have := t.out; have := ab.out; have := ae.out; omega
          case rel => exact ⟨(l), (ad), rs_, H', ⟨by have := t.out; have := ab.out; have := ae.out; omega⟩, ⟨onR g⟩, ⟨bkn j⟩, ⟨bn HB⟩⟩
      ·obtain rfl := nt_ c9; rw [if_neg nf_] at H; obtain rfl := Option.some.inj H; go_wp2
       go_ret
       exact ⟨_, er_, onR g, bn HB⟩
end Go.Proofs.Ytffflhmblelegaa.F
