-- By oprint.py.
import Derived.Test.YtikmhohgjmandaaF0
import Derived.Test.YtikmhohgjmandaaF13
namespace Go.Proofs.Ytikmhohgjmandaa.F
open Go.RowKit Go.Proofs.YtikmhohgjmandaaW.PrintWords Go.Proofs.YtikmhohgjmandaaW.PrintLast Go.Proofs.YtikmhohgjmandaaW.PrintMore
attribute [local go_sem] max2_int min2_int max_two min_two max_three min_three max_four min_four
set_option linter.unusedVariables false
set_option linter.unusedSimpArgs false

/-! ### impl_NetOk: function 42 -/
mutual
def impl_NetOk.j0 : Nat → Bool → Int → List (S45) → Option (Bool)
 | 0, _, _, _ => none
 | k + 1, x12, x391000, x391001 => if x12 = true then (some false) else (impl_NetOk.l0 k x391001 (x391001.length : Int) 0 x391000 x391001)
def impl_NetOk.l0 : Nat → List (S45) → Int → Int → Int → List (S45) → Option (Bool)
 | 0, _, _, _, _, _ => none
 | k + 1, x14, x15, x16, x391000, x391001 => if x16 < x15 then (if 0 ≤ x16 then (if x16 < (x14.length : Int) then (if ((rd_T45 x14 x16).f0) < 0 then (some false) else (if ((rd_T45 x14 x16).f0) ≥ ((rd_T45 x14 x16).f1) then (some false) else (if ((rd_T45 x14 x16).f1) ≥ x391000 then (some false) else (impl_NetOk.l0 k x14 x15 (wrap64 (x16 + 1)) x391000 x391001)))) else (none)) else (none)) else ((impl_ascending.f k x391001).bind fun t393 => (some t393))
end
def impl_NetOk.f (k : Nat) (a0_0 : Int) (l0_1 : List (S45)) : Option (Bool) := if a0_0 < 0 then (impl_NetOk.j0 k true a0_0 l0_1) else (impl_NetOk.j0 k (decide (a0_0 > 8)) a0_0 l0_1)
theorem impl_NetOk.mono_l : ∀ k, (∀ a b c, LeO (impl_NetOk.j0 k a b c) (impl_NetOk.j0 (k + 1) a b c)) ∧ (∀ a b c d e, LeO (impl_NetOk.l0 k a b c d e) (impl_NetOk.l0 (k + 1) a b c d e))
 | 0 => ⟨fun _ _ _ r h => by simp [impl_NetOk.j0] at h, fun _ _ _ _ _ r h => by simp [impl_NetOk.l0] at h⟩
 | k + 1 => by
  obtain ⟨ih0, ih1⟩ := impl_NetOk.mono_l k; refine ⟨?_, ?_⟩
  ·intro a b c; unfold impl_NetOk.j0; have f := @impl_ascending.mono; exact mo_
  ·intro a b c d e; unfold impl_NetOk.l0; have f := @impl_ascending.mono; exact mo_
theorem impl_NetOk.mono : ∀ a b k, LeO (impl_NetOk.f k a b) (impl_NetOk.f (k + 1) a b) := by
 intro a b k; obtain ⟨ih0, ih1⟩ := impl_NetOk.mono_l k; unfold impl_NetOk.f; have m0_ := @impl_ascending.mono; exact mo_
set_option maxHeartbeats 8000000 in
set_option maxRecDepth 100000 in
theorem impl_NetOk.calls (k : Nat) (i : Int) (t : Option Addr) (u : Nat) (b : List (S45)) (r : Bool) (w : World) (L : Kd.C k45 w t b.length b) (M : b.length ≤ u) (h : impl_NetOk.f k i b = some r) :
  Calls Try.prog 42 #[.agg #[.int .i64 i, .slice t b.length u]] w fun e w' => e = .returned (.bool r) ∧ Below w.heap.size w w' := by
 have ai := Try.underlying25; have aj := Try.underlying45; have B := am L; have X := am M; clear L M; have HB := am (Below.refl w.heap.size w)
 have H : (if i < 0 then (impl_NetOk.j0 k true i b) else (impl_NetOk.j0 k (decide (i > 8)) i b)) = some r := h
 clear h; have E := am H; clear H; go_enter Try.func42, Try.ntmps42
 go_upto_region 1 with (first | ((with_reducible refine gate_dst (N := 1) rfl ?_); refine bx_ 1 #[.int .i64 i, .slice t b.length u] 25 HB ?_; clear HB; intro O hg w3 hb a ak HB; clear hb hg))
 (try simp only [Act.put, List.setIfInBounds_toArray, List.set_cons_zero, List.set_cons_succ])
 go_cut [12] (fun Y wc => ∃ (kq : Nat) (D : Bool), Y = .bool D ∧ Aside0 (impl_NetOk.j0 kq D i b = some r) ∧ Aside0 (kq ≤ k) ∧ Bk wc O (.cells #[.int .i64 i, (.slice t b.length u)] 25 (0, 0)) ∧ Aside0 (Below w.heap.size w wc))
 case first =>
  have H := E.out; clear E; by_cases m : i < 0
  ·rw [if_pos m] at H; have n := decide_eq_true m; clear m; (first | rw [n] | (simp only [i64_w, i32_w]; rw [n]) | skip); have H' := am H; clear H; have P := c2 a; go_wp2
   go_meet
   case rel => exact ⟨_, (true), rs_, H', ⟨by first | omega | exact Nat.le_refl _⟩, ⟨bkn a⟩, ⟨bn HB⟩⟩
  ·rw [if_neg m] at H; have n := decide_eq_false m; clear m; (first | rw [n] | (simp only [i64_w, i32_w]; rw [n]) | skip); have H' := am H; clear H; have T := c2 a; go_wp2
   go_meet
   case rel => exact ⟨_, (decide (i > 8)), rs_, H', ⟨by first | omega | exact Nat.le_refl _⟩, ⟨bkn a⟩, ⟨bn HB⟩⟩
 case rest =>
  clear E; (try clear m n P T); obtain ⟨kq, D, rfl, HA, U, a, HB⟩ := hcut; cases kq with
  | zero => exact absurd HA.out (by simp [impl_NetOk.j0])
  | succ kj1 =>
   have H := HA.out; clear HA; simp only [impl_NetOk.j0] at H; by_cases G : D = true
   ·subst G; rw [if_pos rfl] at H; obtain rfl := Option.some.inj H; go_wp2
    go_ret
    exact ⟨er_, bn HB⟩
   ·obtain rfl := nt_ G; rw [if_neg nf_] at H; have H' := am H; clear H; have Z := c2 a; go_wp2
    go_loopg [16] kj1 (fun kq aa w' => ∃ (c : Int), aa = .int .i64 c ∧ Aside0 (impl_NetOk.l0 kq b (b.length : Int) c i b = some r) ∧ Aside0 (kq ≤ kj1) ∧ Bk w' O (.cells #[.int .i64 i, (.slice t b.length u)] 25 (0, 0)) ∧ Aside0 (Below w.heap.size w w'))
    case atStart => exact ⟨(0), rs_, H', ⟨Nat.le_refl _⟩, ⟨bkn a⟩, ⟨bn HB⟩⟩
    case round =>
     clear H'; (try clear m n G P T Z); obtain ⟨c, rfl, HA, W, a, HB⟩ := hrel; cases gk with
     | zero => exact absurd HA.out (by simp [impl_NetOk.l0])
     | succ k2 =>
      have H := HA.out; clear HA; simp only [impl_NetOk.l0] at H; by_cases x : c < (b.length : Int)
      ·rw [if_pos x] at H; have ab := decide_eq_true x; clear x; obtain ⟨al, H⟩ := id_ H; obtain ⟨an, H⟩ := id_ H; by_cases y : ((rd_T45 b c).f0) < 0
       ·rw [if_pos y] at H; have ad := decide_eq_true y; clear y; obtain rfl := Option.some.inj H; have d : 0 ≤ (c : Int) := oa; have g : c < (b.length : Int) := oa; obtain ⟨I, o, j, l⟩ := at_T45 B.out c d g; cases o; replace j := hc_ HB j; replace l := hc_ HB l; obtain ⟨d, g⟩ := e2_ d g
        go_wp2_with (first | ((with_reducible refine gate_dst (N := 4) rfl ?_); refine bx_ 4 #[.int .i64 0, .int .i64 0] 45 HB ?_; clear HB; intro J hg w13 hb p K HB; obtain ⟨q, s⟩ := nb_ hg a; replace a := bb a hb; clear hb hg; have ap := n2 s q; have aq := c2 p))
        go_ret
        exact ⟨er_, bn HB⟩
       ·rw [if_neg y] at H; have ad := decide_eq_false y; clear y; by_cases z : ((rd_T45 b c).f0) ≥ ((rd_T45 b c).f1)
        ·rw [if_pos z] at H; have ae := decide_eq_true z; clear z; obtain rfl := Option.some.inj H; have d : 0 ≤ (c : Int) := oa; have g : c < (b.length : Int) := oa; obtain ⟨I, o, j, l⟩ := at_T45 B.out c d g; cases o; replace j := hc_ HB j; replace l := hc_ HB l; obtain ⟨d, g⟩ := e2_ d g
         go_wp2_with (first | ((with_reducible refine gate_dst (N := 4) rfl ?_); refine bx_ 4 #[.int .i64 0, .int .i64 0] 45 HB ?_; clear HB; intro J hg w17 hb p K HB; obtain ⟨q, s⟩ := nb_ hg a; replace a := bb a hb; clear hb hg; have ar := n2 s q; have au := c2 p))
         go_ret
         exact ⟨er_, bn HB⟩
        ·rw [if_neg z] at H; have ae := decide_eq_false z; clear z; by_cases A : ((rd_T45 b c).f1) ≥ i
         ·rw [if_pos A] at H; have af := decide_eq_true A; clear A; obtain rfl := Option.some.inj H; have d : 0 ≤ (c : Int) := oa; have g : c < (b.length : Int) := oa; obtain ⟨I, o, j, l⟩ := at_T45 B.out c d g; cases o; replace j := hc_ HB j; replace l := hc_ HB l; obtain ⟨d, g⟩ := e2_ d g
          go_wp2_with (first | ((with_reducible refine gate_dst (N := 4) rfl ?_); refine bx_ 4 #[.int .i64 0, .int .i64 0] 45 HB ?_; clear HB; intro J hg w21 hb p K HB; obtain ⟨q, s⟩ := nb_ hg a; replace a := bb a hb; clear hb hg; have av := n2 s q; have aw := c2 p; have ax := c2 a))
          go_ret
          exact ⟨er_, bn HB⟩
         ·rw [if_neg A] at H; have af := decide_eq_false A; clear A; have H' := am H; clear H; have d : 0 ≤ (c : Int) := oa; have g : c < (b.length : Int) := oa; obtain ⟨I, o, j, l⟩ := at_T45 B.out c d g; cases o; replace j := hc_ HB j; replace l := hc_ HB l; obtain ⟨d, g⟩ := e2_ d g
          go_wp2_with (first | ((with_reducible refine gate_dst (N := 4) rfl ?_); refine bx_ 4 #[.int .i64 0, .int .i64 0] 45 HB ?_; clear HB; intro J hg w25 hb p K HB; obtain ⟨q, s⟩ := nb_ hg a; replace a := bb a hb; clear hb hg; have ay := n2 s q; have az := c2 p; have aA := c2 a))
          go_roundg k2
          case measure => have := U.out; have := W.out; omega
          case rel => exact ⟨(wrap64 (c + 1)), rs_, H', ⟨by have := U.out; have := W.out; omega⟩, ⟨bkn a⟩, ⟨bn HB⟩⟩
      ·rw [if_neg x] at H; have ab := decide_eq_false x; clear x; obtain ⟨ag, ah, H⟩ := bi_ H; obtain rfl := Option.some.inj H; have aB := c2 a
       go_wp2_with (first | ((with_reducible refine gate_callee (f := 63) rfl ?_); refine gl_ (some 40) Try.func63 #[.slice t b.length u] ?_; (with_reducible refine (impl_ascending.calls k2 _ _ b ag _ ?z_1 ?z_2 ah.out).mono ?_); (case z_1 => exact cb B HB); (case z_2 => exact X.out); rintro e w31 ⟨rfl, hb⟩; refine ⟨_, rfl, ?_⟩; replace a := bb a hb; replace HB := bs HB hb; (try clear hb)))
       go_ret
       exact ⟨er_, bn HB⟩

/-! ### impl_Net_knot: function 43 -/
def impl_Net_knot.f (a0_0 : Int) (l0_1 : List (S45)) (a1 : Int) : Option (Bool) := if a1 ≥ 0 then (some (decide (a1 < a0_0))) else (some false)
set_option maxHeartbeats 8000000 in
set_option maxRecDepth 100000 in
theorem impl_Net_knot.calls (c : Int) (g : Option Addr) (i : Nat) (a : List (S45)) (d : Int) (r : Bool) (w : World) (j : Kd.C k45 w g a.length a) (l : a.length ≤ i) (h : impl_Net_knot.f c a d = some r) :
  Calls Try.prog 43 #[.agg #[.int .i64 c, .slice g a.length i], .int .i64 d] w fun e w' => e = .returned (.bool r) ∧ Below w.heap.size w w' := by
 have q := Try.underlying25; have s := am j; have t := am l; clear j l; have HB := am (Below.refl w.heap.size w)
 have H : (if d ≥ 0 then (some (decide (d < c))) else (some false)) = some r := h
 clear h; by_cases b : d ≥ 0
 ·rw [if_pos b] at H; have n := decide_eq_true b; clear b; obtain rfl := Option.some.inj H; go_enter Try.func43, Try.ntmps43
  go_wp2_with (first | ((with_reducible refine gate_dst (N := 2) rfl ?_); refine bx_ 2 #[.int .i64 c, .slice g a.length i] 25 HB ?_; clear HB; intro o hg w4 hb m p HB; clear hb hg; have u := c2 m))
  go_ret
  exact ⟨er_, bn HB⟩
 ·rw [if_neg b] at H; have n := decide_eq_false b; clear b; obtain rfl := Option.some.inj H; go_enter Try.func43, Try.ntmps43
  go_wp2_with (first | ((with_reducible refine gate_dst (N := 2) rfl ?_); refine bx_ 2 #[.int .i64 c, .slice g a.length i] 25 HB ?_; clear HB; intro o hg w6 hb m p HB; clear hb hg))
  go_ret
  exact ⟨er_, bn HB⟩

end Go.Proofs.Ytikmhohgjmandaa.F
