-- By oprint.py.
import Derived.Test.YtffflhmblelegaaF0
import Derived.Test.YtffflhmblelegaaF19
import Derived.Test.YtffflhmblelegaaF49
import Derived.Test.YtffflhmblelegaaF5
import Derived.Test.YtffflhmblelegaaF8
namespace Go.Proofs.Ytffflhmblelegaa.F
open Go.RowKit Go.Proofs.YtffflhmblelegaaW.PrintWords Go.Proofs.YtffflhmblelegaaW.PrintLast Go.Proofs.YtffflhmblelegaaW.PrintMore
attribute [local go_sem] max2_int min2_int max_two min_two max_three min_three max_four min_four
set_option linter.unusedVariables false
set_option linter.unusedSimpArgs false
/-! ### impl_TwoOk: function 36 -/
def impl_TwoOk.f (k : Nat) (a0_0 : Int) (l0_1 : List (S52)) (a1 : Int) (a2 : Int) (l3 : List Int) (l4 : List Int) : Option (Bool) := if a1 = a2 then (some false) else ((impl_leads.f k a0_0 l0_1 l3 a1 a2).bind fun t1194 => (if t1194 = true then ((impl_leads.f k a0_0 l0_1 l4 a1 a2).bind fun t1195 => (if t1195 = true then ((impl_disjoint.f k l3 l4).bind fun t1196 => (some t1196)) else (some false))) else (some false)))
set_option maxHeartbeats 8000000 in
set_option maxRecDepth 100000 in
theorem impl_TwoOk.calls (k : Nat) (g : Int) (m : Option Addr) (n : Nat) (b : List (S52)) (c : Int) (d : Int) (E : Option Addr) (G : Nat) (i : List Int) (I : Option Addr) (J : Nat) (j : List Int) (r : Bool) (w : World) (K : Kd.C k52 w m b.length b) (L : b.length ≤ n) (M : Kd.C (Kd.int .i64) w E i.length i) (O : i.length ≤ G) (P : Kd.C (Kd.int .i64) w I j.length j) (T : j.length ≤ J) (h : impl_TwoOk.f k g b c d i j = some r) :
  Calls Try.prog 36 #[.agg #[.int .i64 g, .slice m b.length n], .int .i64 c, .int .i64 d, .slice E i.length G, .slice I j.length J] w fun e w' => e = .returned (.bool r) ∧ Below w.heap.size w w' := by
 have ab := Try.underlying25; have o := am K; have p := am L; clear K L; have q := am M; have s := am O; clear M O; have t := am P; have u := am T; clear P T; have HB := am (Below.refl w.heap.size w)
 have H : (if c = d then (some false) else ((impl_leads.f k g b i c d).bind fun x => (if x = true then ((impl_leads.f k g b j c d).bind fun y => (if y = true then ((impl_disjoint.f k i j).bind fun z => (some z)) else (some false))) else (some false)))) = some r := h
 clear h; by_cases l : c = d
 ·rw [if_pos l] at H; have Y : (c == d) = true := beq_iff_eq.mpr l; have Z : (c != d) = false := bne_eq_false_iff_eq.mpr l; clear l; obtain rfl := Option.some.inj H; go_enter Try.func36, Try.ntmps36
  go_wp2_with (first | ((with_reducible refine gate_dst (N := 5) rfl ?_); refine bx_ 5 #[.int .i64 g, .slice m b.length n] 25 HB ?_; clear HB; intro A hg w7 hb a B HB; clear hb hg))
  go_ret
  exact ⟨er_, bn HB⟩
 ·rw [if_neg l] at H; have Y : (c == d) = false := beq_eq_false_iff_ne.mpr l; have Z : (c != d) = true := bne_iff_ne.mpr l; obtain ⟨x, D, H⟩ := bi_ H; by_cases U : x = true
  ·subst U; rw [if_pos rfl] at H; obtain ⟨y, W, H⟩ := bi_ H; by_cases X : y = true
   ·subst X; rw [if_pos rfl] at H; obtain ⟨z, aa, H⟩ := bi_ H; obtain rfl := Option.some.inj H; go_enter Try.func36, Try.ntmps36
    go_wp2_with (first | ((with_reducible refine gate_dst (N := 5) rfl ?_); refine bx_ 5 #[.int .i64 g, .slice m b.length n] 25 HB ?_; clear HB; intro A hg w13 hb a B HB; clear hb hg; have ad := c2 a) | (go_at_call 52; (with_reducible refine (impl_leads.calls k g _ _ b _ _ i c d true _ ?z_1 ?z_2 ?z_3 ?z_4 D.out).mono ?_); (case z_1 => exact cb o HB); (case z_2 => exact p.out); (case z_3 => exact cb q HB); (case z_4 => exact s.out); rintro e w15 ⟨rfl, hb⟩; replace a := bb a hb; replace HB := bs HB hb; (try clear hb); have ae := c2 a) | (go_at_call 52; (with_reducible refine (impl_leads.calls k g _ _ b _ _ j c d true _ ?z_1 ?z_2 ?z_3 ?z_4 W.out).mono ?_); (case z_1 => exact cb o HB); (case z_2 => exact p.out); (case z_3 => exact cb t HB); (case z_4 => exact u.out); rintro e w17 ⟨rfl, hb⟩; replace a := bb a hb; replace HB := bs HB hb; (try clear hb)) | (go_at_call 79; (with_reducible refine (impl_disjoint.calls k _ _ i _ _ j z _ ?z_1 ?z_2 ?z_3 ?z_4 aa.out).mono ?_); (case z_1 => exact cb q HB); (case z_2 => exact s.out); (case z_3 => exact cb t HB); (case z_4 => exact u.out); rintro e w' ⟨rfl, ⟨nd, rfl⟩⟩))
    go_ret
    exact ⟨er_, bn HB⟩
   ·obtain rfl := nt_ X; rw [if_neg nf_] at H; obtain rfl := Option.some.inj H; go_enter Try.func36, Try.ntmps36
    go_wp2_with (first | ((with_reducible refine gate_dst (N := 5) rfl ?_); refine bx_ 5 #[.int .i64 g, .slice m b.length n] 25 HB ?_; clear HB; intro A hg w18 hb a B HB; clear hb hg; have af := c2 a) | (go_at_call 52; (with_reducible refine (impl_leads.calls k g _ _ b _ _ i c d true _ ?z_1 ?z_2 ?z_3 ?z_4 D.out).mono ?_); (case z_1 => exact cb o HB); (case z_2 => exact p.out); (case z_3 => exact cb q HB); (case z_4 => exact s.out); rintro e w20 ⟨rfl, hb⟩; replace a := bb a hb; replace HB := bs HB hb; (try clear hb); have ag := c2 a) | (go_at_call 52; (with_reducible refine (impl_leads.calls k g _ _ b _ _ j c d false _ ?z_1 ?z_2 ?z_3 ?z_4 W.out).mono ?_); (case z_1 => exact cb o HB); (case z_2 => exact p.out); (case z_3 => exact cb t HB); (case z_4 => exact u.out); rintro e w22 ⟨rfl, hb⟩; replace a := bb a hb; replace HB := bs HB hb; (try clear hb)))
    go_ret
    exact ⟨er_, bn HB⟩
  ·obtain rfl := nt_ U; rw [if_neg nf_] at H; obtain rfl := Option.some.inj H; go_enter Try.func36, Try.ntmps36
   go_wp2_with (first | ((with_reducible refine gate_dst (N := 5) rfl ?_); refine bx_ 5 #[.int .i64 g, .slice m b.length n] 25 HB ?_; clear HB; intro A hg w23 hb a B HB; clear hb hg; have ah := c2 a) | (go_at_call 52; (with_reducible refine (impl_leads.calls k g _ _ b _ _ i c d false _ ?z_1 ?z_2 ?z_3 ?z_4 D.out).mono ?_); (case z_1 => exact cb o HB); (case z_2 => exact p.out); (case z_3 => exact cb q HB); (case z_4 => exact s.out); rintro e w25 ⟨rfl, hb⟩; replace a := bb a hb; replace HB := bs HB hb; (try clear hb)))
   go_ret
   exact ⟨er_, bn HB⟩
/-! ### spec_TwoOk: function 38 -/
mutual
def spec_TwoOk.j0 : Nat → List Int → List Int → Bool → Option (Bool)
 | 0, _, _, _ => none
 | k + 1, x3, x4, x40 => if x40 = true then (some false) else (spec_TwoOk.l0 k x3 x4 1)
def spec_TwoOk.l0 : Nat → List Int → List Int → Int → Option (Bool)
 | 0, _, _, _ => none
 | k + 1, x3, x4, x11 => if (wrap64 (x11 + 1)) < (x3.length : Int) then (if 0 ≤ x11 then (if x11 < (x3.length : Int) then ((spec_l2Has.f k x4 (rd x3 x11)).bind fun t1201 => (if t1201 = true then (some false) else (spec_TwoOk.l0 k x3 x4 (wrap64 (x11 + 1))))) else (none)) else (none)) else (some true)
end
def spec_TwoOk.f (k : Nat) (a0_0 : Int) (l0_1 : List (S52)) (a1 : Int) (a2 : Int) (l3 : List Int) (l4 : List Int) : Option (Bool) := if a1 = a2 then (spec_TwoOk.j0 k l3 l4 true) else ((spec_l13Ends.f k a0_0 l0_1 a1 a2 l3).bind fun t1198 => (if t1198 = true then ((spec_l13Ends.f k a0_0 l0_1 a1 a2 l4).bind fun t1199 => (if t1199 = true then (if (l3.length : Int) = 2 then (spec_TwoOk.j0 k l3 l4 ((l4.length : Int) == 2)) else (spec_TwoOk.j0 k l3 l4 false)) else (spec_TwoOk.j0 k l3 l4 true))) else (spec_TwoOk.j0 k l3 l4 true)))
set_option maxHeartbeats 8000000 in
set_option maxRecDepth 100000 in
theorem spec_TwoOk.calls (k : Nat) (l : Int) (z : Option Addr) (A : Nat) (d : List (S52)) (g : Int) (i : Int) (A3 : Option Addr) (G : Nat) (a : List Int) (I : Option Addr) (u : Nat) (c : List Int) (r : Bool) (w : World) (ad : Kd.C k52 w z d.length d) (ae : d.length ≤ A) (af : Kd.C (Kd.int .i64) w A3 a.length a) (ag : a.length ≤ G) (ah : Kd.C (Kd.int .i64) w I c.length c) (ai : c.length ≤ u) (h : spec_TwoOk.f k l d g i a c = some r) :
  Calls Try.prog 38 #[.agg #[.int .i64 l, .slice z d.length A], .int .i64 g, .int .i64 i, .slice A3 a.length G, .slice I c.length u] w fun e w' => e = .returned (.bool r) ∧ Below w.heap.size w w' := by
 have aE := Try.underlying25; have o := am ad; have p := am ae; clear ad ae; have x := am af; have J := am ag; clear af ag; have B := am ah; have D := am ai; clear ah ai; have HB := am (Below.refl w.heap.size w)
 have H : (if g = i then (spec_TwoOk.j0 k a c true) else ((spec_l13Ends.f k l d g i a).bind fun P => (if P = true then ((spec_l13Ends.f k l d g i c).bind fun T => (if T = true then (if (a.length : Int) = 2 then (spec_TwoOk.j0 k a c ((c.length : Int) == 2)) else (spec_TwoOk.j0 k a c false)) else (spec_TwoOk.j0 k a c true))) else (spec_TwoOk.j0 k a c true)))) = some r := h
 clear h; have U := am H; clear H; go_enter Try.func38, Try.ntmps38
 go_upto_region 1 with (first | ((with_reducible refine gate_dst (N := 5) rfl ?_); refine bx_ 5 #[.int .i64 l, .slice z d.length A] 25 HB ?_; clear HB; intro aj hg w7 hb b aF HB; clear hb hg))
 (try simp only [Act.put, List.setIfInBounds_toArray, List.set_cons_zero, List.set_cons_succ])
 go_cut [40] (fun az wc => ∃ (kq : Nat) (K : Bool), az = .bool K ∧ Aside0 (spec_TwoOk.j0 kq a c K = some r) ∧ Aside0 (kq ≤ k) ∧ Bk wc aj (.cells #[.int .i64 l, (.slice z d.length A)] 25 (0, 0)) ∧ Aside0 (Below w.heap.size w wc))
 case first =>
  have H := U.out; clear U; by_cases m : g = i
  ·rw [if_pos m] at H; have q : (g == i) = true := beq_iff_eq.mpr m; have W : (g != i) = false := bne_eq_false_iff_eq.mpr m; clear m; (first | rw [q] | (simp only [i64_w, i32_w]; rw [q]) | skip); have H' := am H; clear H; go_wp2
   go_meet
   case rel => exact ⟨_, (true), rs_, H', ⟨by first | omega | exact Nat.le_refl _⟩, ⟨bkn b⟩, ⟨bn HB⟩⟩
  ·rw [if_neg m] at H; have q : (g == i) = false := beq_eq_false_iff_ne.mpr m; have W : (g != i) = true := bne_iff_ne.mpr m; (first | rw [q] | (simp only [i64_w, i32_w]; rw [q]) | skip); obtain ⟨P, L, H⟩ := bi_ H; by_cases M : P = true
   ·subst M; rw [if_pos rfl] at H; obtain ⟨T, X, H⟩ := bi_ H; by_cases O : T = true
    ·subst O; rw [if_pos rfl] at H; by_cases n : (a.length : Int) = 2
     ·rw [if_pos n] at H; have Y : ((a.length : Int) == 2) = true := beq_iff_eq.mpr n; have Z : ((a.length : Int) != 2) = false := bne_eq_false_iff_eq.mpr n; clear n; have H' := am H; clear H; have ak := c2 b
      go_wp2_with (first | (go_at_call 55; (with_reducible refine (spec_l13Ends.calls k l _ _ d g i _ _ a true _ ?z_1 ?z_2 ?z_3 ?z_4 L.out).mono ?_); (case z_1 => exact cb o HB); (case z_2 => exact p.out); (case z_3 => exact cb x HB); (case z_4 => exact J.out); rintro e w15 ⟨rfl, hb⟩; replace b := bb b hb; replace HB := bs HB hb; (try clear hb); have al := c2 b) | (go_at_call 55; (with_reducible refine (spec_l13Ends.calls k l _ _ d g i _ _ c true _ ?z_1 ?z_2 ?z_3 ?z_4 X.out).mono ?_); (case z_1 => exact cb o HB); (case z_2 => exact p.out); (case z_3 => exact cb B HB); (case z_4 => exact D.out); rintro e w17 ⟨rfl, hb⟩; replace b := bb b hb; replace HB := bs HB hb; (try clear hb)))
      go_meet
      case rel => exact ⟨_, (((c.length : Int) == 2)), rs_, H', ⟨by first | omega | exact Nat.le_refl _⟩, ⟨bkn b⟩, ⟨bn HB⟩⟩
     ·rw [if_neg n] at H; have Y : ((a.length : Int) == 2) = false := beq_eq_false_iff_ne.mpr n; have Z : ((a.length : Int) != 2) = true := bne_iff_ne.mpr n; have H' := am H; clear H; have an := c2 b
      go_wp2_with (first | (go_at_call 55; (with_reducible refine (spec_l13Ends.calls k l _ _ d g i _ _ a true _ ?z_1 ?z_2 ?z_3 ?z_4 L.out).mono ?_); (case z_1 => exact cb o HB); (case z_2 => exact p.out); (case z_3 => exact cb x HB); (case z_4 => exact J.out); rintro e w19 ⟨rfl, hb⟩; replace b := bb b hb; replace HB := bs HB hb; (try clear hb); have ap := c2 b) | (go_at_call 55; (with_reducible refine (spec_l13Ends.calls k l _ _ d g i _ _ c true _ ?z_1 ?z_2 ?z_3 ?z_4 X.out).mono ?_); (case z_1 => exact cb o HB); (case z_2 => exact p.out); (case z_3 => exact cb B HB); (case z_4 => exact D.out); rintro e w21 ⟨rfl, hb⟩; replace b := bb b hb; replace HB := bs HB hb; (try clear hb)))
      go_meet
      case rel => exact ⟨_, (false), rs_, H', ⟨by first | omega | exact Nat.le_refl _⟩, ⟨bkn b⟩, ⟨bn HB⟩⟩
    ·obtain rfl := nt_ O; rw [if_neg nf_] at H; have H' := am H; clear H; have aq := c2 b
     go_wp2_with (first | (go_at_call 55; (with_reducible refine (spec_l13Ends.calls k l _ _ d g i _ _ a true _ ?z_1 ?z_2 ?z_3 ?z_4 L.out).mono ?_); (case z_1 => exact cb o HB); (case z_2 => exact p.out); (case z_3 => exact cb x HB); (case z_4 => exact J.out); rintro e w23 ⟨rfl, hb⟩; replace b := bb b hb; replace HB := bs HB hb; (try clear hb); have ar := c2 b) | (go_at_call 55; (with_reducible refine (spec_l13Ends.calls k l _ _ d g i _ _ c false _ ?z_1 ?z_2 ?z_3 ?z_4 X.out).mono ?_); (case z_1 => exact cb o HB); (case z_2 => exact p.out); (case z_3 => exact cb B HB); (case z_4 => exact D.out); rintro e w25 ⟨rfl, hb⟩; replace b := bb b hb; replace HB := bs HB hb; (try clear hb)))
     go_meet
     case rel => exact ⟨_, (true), rs_, H', ⟨by first | omega | exact Nat.le_refl _⟩, ⟨bkn b⟩, ⟨bn HB⟩⟩
   ·obtain rfl := nt_ M; rw [if_neg nf_] at H; have H' := am H; clear H; have au := c2 b
    go_wp2_with (first | (go_at_call 55; (with_reducible refine (spec_l13Ends.calls k l _ _ d g i _ _ a false _ ?z_1 ?z_2 ?z_3 ?z_4 L.out).mono ?_); (case z_1 => exact cb o HB); (case z_2 => exact p.out); (case z_3 => exact cb x HB); (case z_4 => exact J.out); rintro e w27 ⟨rfl, hb⟩; replace b := bb b hb; replace HB := bs HB hb; (try clear hb)))
    go_meet
    case rel => exact ⟨_, (true), rs_, H', ⟨by first | omega | exact Nat.le_refl _⟩, ⟨bkn b⟩, ⟨bn HB⟩⟩
 case rest =>
  clear U; (try clear G u m q W M O n Y Z ak al an ap aq ar au); obtain ⟨kq, K, rfl, HA, av, b, HB⟩ := hcut; cases kq with
  | zero => exact absurd HA.out (by simp [spec_TwoOk.j0])
  | succ kj5 =>
   have H := HA.out; clear HA; simp only [spec_TwoOk.j0] at H; by_cases aa : K = true
   ·subst aa; rw [if_pos rfl] at H; obtain rfl := Option.some.inj H; go_wp2
    go_ret
    exact ⟨er_, bn HB⟩
   ·obtain rfl := nt_ aa; rw [if_neg nf_] at H; have H' := am H; clear H; go_wp2
    go_loopg [11] kj5 (fun kq aA w' => ∃ (j : Int), aA = .int .i64 j ∧ Aside0 (spec_TwoOk.l0 kq a c j = some r) ∧ Aside0 (kq ≤ kj5) ∧ Bk w' aj (.cells #[.int .i64 l, (.slice z d.length A)] 25 (0, 0)) ∧ Aside0 (Below w.heap.size w w'))
    case atStart => exact ⟨(1), rs_, H', ⟨Nat.le_refl _⟩, ⟨bkn b⟩, ⟨bn HB⟩⟩
    case round =>
     clear H'; (try clear c2 G u m q W M O n Y Z aa ak al an ap aq ar au); obtain ⟨j, rfl, HA, aw, b, HB⟩ := hrel; cases gk with
     | zero => exact absurd HA.out (by simp [spec_TwoOk.l0])
     | succ k2 =>
      have H := HA.out; clear HA; simp only [spec_TwoOk.l0] at H; by_cases y : (wrap64 (j + 1)) < (a.length : Int)
      ·rw [if_pos y] at H; have aB := decide_eq_true y; clear y; obtain ⟨aG, H⟩ := id_ H; obtain ⟨aH, H⟩ := id_ H; obtain ⟨aC, ax, H⟩ := bi_ H; by_cases ay : aC = true
       ·subst ay; rw [if_pos rfl] at H; obtain rfl := Option.some.inj H; have s : 0 ≤ (j : Int) := oa; have t : j < (a.length : Int) := oa; obtain ⟨aD, ab, E⟩ := Kd.at_int x.out j s t; cases ab; replace E := hc_ HB E; obtain ⟨s, t⟩ := e2_ s t
        go_wp2_with (first | ((with_reducible refine gate_callee (f := 84) rfl ?_); refine gl_ (some 53) Try.func84 #[.slice I c.length u, .int .i64 (rd a j)] ?_; (with_reducible refine (spec_l2Has.calls k2 _ _ c (rd a j) true _ ?z_1 ?z_2 ax.out).mono ?_); (case z_1 => exact cb B HB); (case z_2 => exact D.out); rintro e w' ⟨rfl, ⟨nd, rfl⟩⟩; refine ⟨_, rfl, ?_⟩))
        go_ret
        exact ⟨er_, bn HB⟩
       ·obtain rfl := nt_ ay; rw [if_neg nf_] at H; have H' := am H; clear H; have s : 0 ≤ (j : Int) := oa; have t : j < (a.length : Int) := oa; obtain ⟨aD, ab, E⟩ := Kd.at_int x.out j s t; cases ab; replace E := hc_ HB E; obtain ⟨s, t⟩ := e2_ s t
        go_wp2_with (first | ((with_reducible refine gate_callee (f := 84) rfl ?_); refine gl_ (some 53) Try.func84 #[.slice I c.length u, .int .i64 (rd a j)] ?_; (with_reducible refine (spec_l2Has.calls k2 _ _ c (rd a j) false _ ?z_1 ?z_2 ax.out).mono ?_); (case z_1 => exact cb B HB); (case z_2 => exact D.out); rintro e w' ⟨rfl, ⟨nd, rfl⟩⟩; refine ⟨_, rfl, ?_⟩))
        go_roundg k2
        case measure => have := av.out; have := aw.out; omega
        case rel => exact ⟨(wrap64 (j + 1)), rs_, H', ⟨by have := av.out; have := aw.out; omega⟩, ⟨bkn b⟩, ⟨bn HB⟩⟩
      ·rw [if_neg y] at H; have aB := decide_eq_false y; clear y; obtain rfl := Option.some.inj H; go_wp2
       go_ret
       exact ⟨er_, bn HB⟩
end Go.Proofs.Ytffflhmblelegaa.F
