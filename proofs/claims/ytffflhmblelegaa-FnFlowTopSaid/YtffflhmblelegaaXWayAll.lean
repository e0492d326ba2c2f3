/-
The reference's WayAll: all ways of one knot, of two knots, and so on.
-/
import Derived.Test.YtffflhmblelegaaXOn
import Derived.Test.YtffflhmblelegaaF4
namespace Go.Proofs.Ytffflhmblelegaa.F
open Go.RowKit Go.Proofs.YtffflhmblelegaaW.PrintWords Go.Proofs.YtffflhmblelegaaW.PrintLast Go.Proofs.YtffflhmblelegaaW.PrintMore
attribute [local go_sem] max2_int min2_int max_two min_two max_three min_three max_four min_four
set_option linter.unusedVariables false
set_option linter.unusedSimpArgs false
/-! ### spec_WayAll: function 48 -/
mutual
def spec_WayAll.j0 : Nat → Int → Int → List (List Int) → Bool → Int → List (S52) → Option ((List (List Int)))
 | 0, _, _, _, _, _, _ => none
 | k + 1, x1, x2, x7, x19, x642000, x642001 => if x19 = true then (some x7) else (spec_WayAll.l0 k x1 x2 x7 1 x642000 x642001)
def spec_WayAll.l0 : Nat → Int → Int → List (List Int) → Int → Int → List (S52) → Option ((List (List Int)))
 | 0, _, _, _, _, _, _ => none
 | k + 1, x1, x2, x7, x8, x642000, x642001 => if x8 ≤ x642000 then ((spec_l2On.f k x642000 x642001 (([x1] : List Int)) x2 x8 x7).bind fun t650 => (spec_WayAll.l0 k x1 x2 t650 (wrap64 (x8 + 1)) x642000 x642001)) else (some x7)
end
def spec_WayAll.f (k : Nat) (a0_0 : Int) (l0_1 : List (S52)) (a1 : Int) (a2 : Int) : Option ((List (List Int))) := (some (([] : List (List Int)) : List (List Int))).bind fun y642 => ((spec_l1Knot.f k a0_0 l0_1 a1).bind fun t645 => (if t645 = true then ((spec_l1Knot.f k a0_0 l0_1 a2).bind fun t646 => (spec_WayAll.j0 k a1 a2 y642 (!t646) a0_0 l0_1)) else (spec_WayAll.j0 k a1 a2 y642 true a0_0 l0_1)))
set_option maxHeartbeats 8000000 in
set_option maxRecDepth 100000 in
theorem spec_WayAll.calls (k : Nat) (b : Int) (l : Option Addr) (m : Nat) (a : List (S52)) (d : Int) (g : Int) (r : List (List Int)) (w : World) (U : Kd.C k52 w l a.length a) (W : a.length ≤ m) (h : spec_WayAll.f k b a d g = some r) :
  Calls Try.prog 48 #[.agg #[.int .i64 b, .slice l a.length m], .int .i64 d, .int .i64 g] w fun e w' => ∃ X : Value, e = .returned (X) ∧ Kd.S (Kd.slice 3 (Kd.int .i64)) 30 w' w.heap.size (fun _ => True) X r ∧ Below w.heap.size w w' := by
 have au := Try.underlying25; have y := am U; have z := am W; clear U W; have HB := am (Below.refl w.heap.size w)
 have H : ((some (([] : List (List Int)) : List (List Int))).bind fun n => ((spec_l1Knot.f k b a d).bind fun u => (if u = true then ((spec_l1Knot.f k b a g).bind fun p => (spec_WayAll.j0 k d g n (!p) b a)) else (spec_WayAll.j0 k d g n true b a)))) = some r := h
 clear h; obtain ⟨n, E⟩ : ∃ y_ : List (List Int), y_ = (([] : List (List Int))) := ⟨_, rfl⟩; replace H : ((spec_l1Knot.f k b a d).bind fun u => (if u = true then ((spec_l1Knot.f k b a g).bind fun p => (spec_WayAll.j0 k d g n (!p) b a)) else (spec_WayAll.j0 k d g n true b a))) = some r := nh_ E H; have Y := am E; clear E; have G := am H; clear H; go_enter Try.func48, Try.ntmps48
 go_upto_region 2 with (first | ((with_reducible refine gate_dst (N := 3) rfl ?_); refine bx_ 3 #[.int .i64 b, .slice l a.length m] 25 HB ?_; clear HB; intro Z hg w5 hb c av HB; clear hb hg) | ((with_reducible refine gate_dst (N := 9) rfl ?_); refine Kd.S_lit (Kd.slice 3 (Kd.int .i64)) _ 30 ?hg (N := 9) ?hd (xs := ([] : List (List Int))) (inner := []) (ok := fun _ => True) (okp := fun _ => True) ?hr ?hp (fun _ hk => hk) trivial (Below.refl _ _) (Nat.le_refl _) (by simp) ?_; (case hd => rfl); (case hg => rfl); (case hr => first | (go_simp; done) | (go_simp; rfl)); (case hp => exact (Reps.none _ _)); intro ah w6 x hb I J; have hO : ∃ k_, (ah : Value).ownBlock = some k_ := J.imp (fun _ h_ => h_.1); clear I J; (first | rw [← Y.out] at x | (simp only [Int.reduceToNat] at x; rw [← Y.out] at x)); have o := am (Kd.S_lower x (below_size (bn HB))); replace c := bb c hb; replace HB := bs HB hb; clear hb x))
 (try simp only [Act.put, List.setIfInBounds_toArray, List.set_cons_zero, List.set_cons_succ])
 go_cut [19] (fun ai wc => ∃ (kq : Nat) (A : Bool), ai = .bool A ∧ Aside0 (spec_WayAll.j0 kq d g n A b a = some r) ∧ Aside0 (kq ≤ k) ∧ Aside0 (Kd.S (Kd.slice 3 (Kd.int .i64)) 30 wc w.heap.size (fun _ => True) ah n) ∧ Bk wc Z (.cells #[.int .i64 b, (.slice l a.length m)] 25 (0, 0)) ∧ Aside0 (Below w.heap.size w wc))
 case first =>
  have H := G.out; clear G; obtain ⟨u, A8, H⟩ := bi_ H; by_cases B : u = true
  ·subst B; rw [if_pos rfl] at H; obtain ⟨p, aj, H⟩ := bi_ H; have H' := am H; clear H; have aa := c2 c
   go_wp2_with (first | ((with_reducible refine gate_callee (f := 54) rfl ?_); refine gl_ (some 12) Try.func54 #[.agg #[.int .i64 b, .slice l a.length m], .int .i64 d] ?_; (with_reducible refine (spec_l1Knot.calls k b _ _ a d true _ ?z_1 ?z_2 A8.out).mono ?_); (case z_1 => exact cb y HB); (case z_2 => exact z.out); rintro e w12 ⟨rfl, hb⟩; refine ⟨_, rfl, ?_⟩; replace o := am (Kd.S_below (onS o) hb); replace c := bb c hb; replace HB := bs HB hb; (try clear hb); have ab := c2 c) | (go_at_call 54; (with_reducible refine (spec_l1Knot.calls k b _ _ a g p _ ?z_1 ?z_2 aj.out).mono ?_); (case z_1 => exact cb y HB); (case z_2 => exact z.out); rintro e w14 ⟨rfl, hb⟩; replace o := am (Kd.S_below (onS o) hb); replace c := bb c hb; replace HB := bs HB hb; (try clear hb)))
   go_meet
   case rel => exact ⟨_, (!p), rs_, H', ⟨by first | omega | exact Nat.le_refl _⟩, ⟨onS o⟩, ⟨bkn c⟩, ⟨bn HB⟩⟩
  ·obtain rfl := nt_ B; rw [if_neg nf_] at H; have H' := am H; clear H; have ad := c2 c
   go_wp2_with (first | ((with_reducible refine gate_callee (f := 54) rfl ?_); refine gl_ (some 12) Try.func54 #[.agg #[.int .i64 b, .slice l a.length m], .int .i64 d] ?_; (with_reducible refine (spec_l1Knot.calls k b _ _ a d false _ ?z_1 ?z_2 A8.out).mono ?_); (case z_1 => exact cb y HB); (case z_2 => exact z.out); rintro e w16 ⟨rfl, hb⟩; refine ⟨_, rfl, ?_⟩; replace o := am (Kd.S_below (onS o) hb); replace c := bb c hb; replace HB := bs HB hb; (try clear hb)))
   go_meet
   case rel => exact ⟨_, (true), rs_, H', ⟨by first | omega | exact Nat.le_refl _⟩, ⟨onS o⟩, ⟨bkn c⟩, ⟨bn HB⟩⟩
 case rest =>
  clear G; (try clear B aa ab ad); obtain ⟨kq, A, rfl, HA, ae, i, c, HB⟩ := hcut; cases kq with
  | zero => exact absurd HA.out (by simp [spec_WayAll.j0])
  | succ kj3 =>
   have H := HA.out; clear HA; simp only [spec_WayAll.j0] at H; by_cases K : A = true
   ·subst K; rw [if_pos rfl] at H; obtain rfl := Option.some.inj H; go_wp2
    go_ret
    exact ⟨_, er_, onS i, bn HB⟩
   ·obtain rfl := nt_ K; rw [if_neg nf_] at H; have H' := am H; clear H; go_wp2
    go_loopg [7, 8] kj3 (fun kq v7 v8 w' => ∃ (L : List (List Int)) (j : Int), v8 = .int .i64 j ∧ Aside0 (spec_WayAll.l0 kq d g L j b a = some r) ∧ Aside0 (kq ≤ kj3) ∧ Aside0 (Kd.S (Kd.slice 3 (Kd.int .i64)) 30 w' w.heap.size (fun _ => True) v7 L) ∧ Bk w' Z (.cells #[.int .i64 b, (.slice l a.length m)] 25 (0, 0)) ∧ Aside0 (Below w.heap.size w w') ∧ ∃ k_, (v7 : Value).ownBlock = some k_)
    case atStart => exact ⟨(n), (1), rs_, H', ⟨Nat.le_refl _⟩, ⟨onS i⟩, ⟨bkn c⟩, ⟨bn HB⟩, hO⟩
    case round =>
     clear H'; (try clear B K aa ab ad); obtain ⟨L, j, rfl, HA, af, i, c, HB, hO⟩ := hrel; cases gk with
     | zero => exact absurd HA.out (by simp [spec_WayAll.l0])
     | succ k2 =>
      have H := HA.out; clear HA; simp only [spec_WayAll.l0] at H; by_cases q : j ≤ b
      ·rw [if_pos q] at H; have ak := decide_eq_true q; clear q; obtain ⟨O, P⟩ : ∃ y_ : List Int, y_ = (([d] : List Int)) := ⟨_, rfl⟩; replace H : ((spec_l2On.f k2 b a O g j L).bind fun D => (spec_WayAll.l0 k2 d g D (wrap64 (j + 1)) b a)) = some r := nh_ P H; have ag := am P; clear P; obtain ⟨D, al, H⟩ := bi_ H; have H' := am H; clear H; have aw := c2 c
       go_wp2_with (first | ((with_reducible refine gate_dst (N := 29) rfl ?_); refine Kd.R_lit (Kd.int .i64) _ 3 ?hg (N := 29) ?hd (xs := ([d] : List Int)) (inner := [.int .i64 d]) (ok := fun _ => True) (okp := fun _ => True) ?hr ?hp (fun _ hk => hk) trivial (Below.refl _ _) (Nat.le_refl _) (by simp) ?_; (case hd => rfl); (case hg => rfl); (case hr => first | (go_simp; done) | (go_simp; rfl)); (case hp => exact (Reps.one (show Kd.M (Kd.int .i64) _ _ _ d [.int .i64 d] from rfl) (Reps.none _ _))); intro ax w21 s hb I J; clear I J; (first | rw [← ag.out] at s | (simp only [Int.reduceToNat] at s; rw [← ag.out] at s)); replace i := am (Kd.S_elder' (onS i) (Kd.R_base s) hb); have t := am (Kd.R_lower s (below_size (bn HB))); replace c := bb c hb; replace HB := bs HB hb; clear hb s; obtain ⟨an, ap, aq⟩ := Kd.R_slice t.out; subst aq) | ((with_reducible refine gate_callee (f := 93) rfl ?_); refine gl_ (some 33) Try.func93 #[.agg #[.int .i64 b, .slice l a.length m], .slice an O.length ap, .int .i64 g, .int .i64 j, u7] ?_; (with_reducible refine (spec_l2On.calls k2 b _ _ a _ _ O g j u7 L D w _ ?z_0 ?z_1 ?z_2 ?z_3 ?z_4 ?z_5 hO al.out).mono ?_); (case z_0 => exact bn HB); (case z_1 => exact y.out); (case z_2 => exact z.out); (case z_3 => exact fun W_ hk_ => krow (onR t) hk_); (case z_4 => exact (Kd.R_reads' t.out).2.1); (case z_5 => exact Kd.S_mono (onS i) (fun _ _ => trivial)); rintro e w24 ⟨ay, rfl, T, hb, hk_, hO1⟩; refine ⟨_, rfl, ?_⟩; have ar := am T; replace c := kbk c hk_; replace HB := am hb; clear i t T hb))
       go_roundg k2
       case measure => have := ae.out; have := af.out; omega
       case rel => exact ⟨(D), (wrap64 (j + 1)), rs_, H', ⟨by have := ae.out; have := af.out; omega⟩, ⟨onS ar⟩, ⟨bkn c⟩, ⟨bn HB⟩, hO1⟩
      ·rw [if_neg q] at H; have ak := decide_eq_false q; clear q; obtain rfl := Option.some.inj H; have az := c2 c; go_wp2
       go_ret
       exact ⟨_, er_, onS i, bn HB⟩
end Go.Proofs.Ytffflhmblelegaa.F
