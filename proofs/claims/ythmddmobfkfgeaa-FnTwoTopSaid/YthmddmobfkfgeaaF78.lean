-- By oprint.py.
import Derived.Test.YthmddmobfkfgeaaF0
import Derived.Test.YthmddmobfkfgeaaF11
import Derived.Test.YthmddmobfkfgeaaF41
import Derived.Test.YthmddmobfkfgeaaF46
import Derived.Test.YthmddmobfkfgeaaF60
namespace Go.Proofs.Ythmddmobfkfgeaa.F
open Go.RowKit Go.Proofs.YthmddmobfkfgeaaW.PrintWords Go.Proofs.YthmddmobfkfgeaaW.PrintLast Go.Proofs.YthmddmobfkfgeaaW.PrintMore
attribute [local go_sem] max2_int min2_int max_two min_two max_three min_three max_four min_four
set_option linter.unusedVariables false
set_option linter.unusedSimpArgs false

/-! ### impl_TwoCut: function 74 -/
mutual
def impl_TwoCut.j0 : Nat → Int → Int → Bool → Int → List (S33) → Option (Int × Bool)
 | 0, _, _, _, _, _ => none
 | k + 1, x1, x2, x26, x1527000, x1527001 => if x26 = true then (some (0, false)) else (impl_TwoCut.l0 k x1 x2 x1527000 0 x1527000 x1527001)
def impl_TwoCut.l0 : Nat → Int → Int → Int → Int → Int → List (S33) → Option (Int × Bool)
 | 0, _, _, _, _, _, _ => none
 | k + 1, x1, x2, x28, x29, x1527000, x1527001 => if x29 < x28 then (if x29 = x1 then (impl_TwoCut.l0 k x1 x2 x28 (wrap64 (x29 + 1)) x1527000 x1527001) else (if x29 = x2 then (impl_TwoCut.l0 k x1 x2 x28 (wrap64 (x29 + 1)) x1527000 x1527001) else ((impl_Net_without.f k x1527000 x1527001 x29).bind fun bt1530 => ((impl_Net_joined.f k bt1530.1 bt1530.2 x1 x2).bind fun t1534 => (if t1534 = true then (impl_TwoCut.l0 k x1 x2 x28 (wrap64 (x29 + 1)) x1527000 x1527001) else (some (x29, true))))))) else (some (0, false))
end
def impl_TwoCut.f (k : Nat) (a0_0 : Int) (l0_1 : List (S33)) (a1 : Int) (a2 : Int) : Option (Int × Bool) := (impl_twoKnots.f k a0_0 l0_1 a1 a2).bind fun t1527 => (if t1527 = true then ((impl_Net_joined.f k a0_0 l0_1 a1 a2).bind fun t1528 => (if t1528 = true then ((impl_Net_has.f k a0_0 l0_1 a1 a2).bind fun t1529 => (impl_TwoCut.j0 k a1 a2 t1529 a0_0 l0_1)) else (impl_TwoCut.j0 k a1 a2 true a0_0 l0_1))) else (impl_TwoCut.j0 k a1 a2 true a0_0 l0_1))
theorem impl_TwoCut.mono_l : ∀ k, (∀ a b c d e, LeO (impl_TwoCut.j0 k a b c d e) (impl_TwoCut.j0 (k + 1) a b c d e)) ∧ (∀ a b c d e f, LeO (impl_TwoCut.l0 k a b c d e f) (impl_TwoCut.l0 (k + 1) a b c d e f))
 | 0 => ⟨fun _ _ _ _ _ r h => by simp [impl_TwoCut.j0] at h, fun _ _ _ _ _ _ r h => by simp [impl_TwoCut.l0] at h⟩
 | k + 1 => by
  obtain ⟨ih0, ih1⟩ := impl_TwoCut.mono_l k; refine ⟨?_, ?_⟩
  ·intro a b c d e; unfold impl_TwoCut.j0; have g := @impl_Net_has.mono; have i := @impl_Net_joined.mono; have j := @impl_Net_without.mono; have l := @impl_twoKnots.mono; exact mo_
  ·intro a b c d e f; unfold impl_TwoCut.l0; have g := @impl_Net_has.mono; have i := @impl_Net_joined.mono; have j := @impl_Net_without.mono; have l := @impl_twoKnots.mono; exact mo_
theorem impl_TwoCut.mono : ∀ a b c d k, LeO (impl_TwoCut.f k a b c d) (impl_TwoCut.f (k + 1) a b c d) := by
 intro a b c d k; obtain ⟨ih0, ih1⟩ := impl_TwoCut.mono_l k; unfold impl_TwoCut.f; have m0_ := @impl_Net_has.mono; have m1_ := @impl_Net_joined.mono; have m2_ := @impl_Net_without.mono; have m3_ := @impl_twoKnots.mono; exact mo_
set_option maxHeartbeats 8000000 in
set_option maxRecDepth 100000 in
theorem impl_TwoCut.calls (k : Nat) (c : Int) (l : Option Addr) (m : Nat) (b : List (S33)) (d : Int) (g : Int) (x : Int) (y : Bool) (w : World) (P : Kd.C k33 w l b.length b) (T : b.length ≤ m) (h : impl_TwoCut.f k c b d g = some (x, y)) :
  Calls Try.prog 74 #[.agg #[.int .i64 c, .slice l b.length m], .int .i64 d, .int .i64 g] w fun e w' => e = .returned (.tuple #[.int .i64 x, .bool y]) ∧ Below w.heap.size w w' := by
 have ay := Try.underlying31; have n := am P; have o := am T; clear P T; have HB := am (Below.refl w.heap.size w)
 have H : ((impl_twoKnots.f k c b d g).bind fun J => (if J = true then ((impl_Net_joined.f k c b d g).bind fun K => (if K = true then ((impl_Net_has.f k c b d g).bind fun A => (impl_TwoCut.j0 k d g A c b)) else (impl_TwoCut.j0 k d g true c b))) else (impl_TwoCut.j0 k d g true c b))) = some (x, y) := h
 clear h; have L := am H; clear H; go_enter Try.func74, Try.ntmps74
 go_upto_region 1 with (first | ((with_reducible refine gate_dst (N := 3) rfl ?_); refine bx_ 3 #[.int .i64 c, .slice l b.length m] 31 HB ?_; clear HB; intro U hg w5 hb a az HB; clear hb hg))
 (try simp only [Act.put, List.setIfInBounds_toArray, List.set_cons_zero, List.set_cons_succ])
 go_cut [26] (fun ah wc => ∃ (kq : Nat) (B : Bool), ah = .bool B ∧ Aside0 (impl_TwoCut.j0 kq d g B c b = some (x, y)) ∧ Aside0 (kq ≤ k) ∧ Bk wc U (.cells #[.int .i64 c, (.slice l b.length m)] 31 (0, 0)) ∧ Aside0 (Below w.heap.size w wc))
 case first =>
  have H := L.out; clear L; obtain ⟨J, M, H⟩ := bi_ H; by_cases D : J = true
  ·subst D; rw [if_pos rfl] at H; obtain ⟨K, W, H⟩ := bi_ H; by_cases E : K = true
   ·subst E; rw [if_pos rfl] at H; obtain ⟨A, ai, H⟩ := bi_ H; have H' := am H; clear H; have X := c2 a
    go_wp2_with (first | ((with_reducible refine gate_callee (f := 109) rfl ?_); refine gl_ (some 12) Try.func109 #[.agg #[.int .i64 c, .slice l b.length m], .int .i64 d, .int .i64 g] ?_; (with_reducible refine (impl_twoKnots.calls k c _ _ b d g true _ ?z_1 ?z_2 M.out).mono ?_); (case z_1 => exact cb n HB); (case z_2 => exact o.out); rintro e w12 ⟨rfl, hb⟩; refine ⟨_, rfl, ?_⟩; replace a := bb a hb; replace HB := bs HB hb; (try clear hb); have Y := c2 a) | (go_at_call 121; (with_reducible refine (impl_Net_joined.calls k c _ _ b d g true _ ?z_1 ?z_2 W.out).mono ?_); (case z_1 => exact cb n HB); (case z_2 => exact o.out); rintro e w14 ⟨rfl, hb⟩; replace a := bb a hb; replace HB := bs HB hb; (try clear hb); have Z := c2 a) | (go_at_call 94; (with_reducible refine (impl_Net_has.calls k c _ _ b d g A _ ?z_1 ?z_2 ai.out).mono ?_); (case z_1 => exact cb n HB); (case z_2 => exact o.out); rintro e w16 ⟨rfl, hb⟩; replace a := bb a hb; replace HB := bs HB hb; (try clear hb)))
    go_meet
    case rel => exact ⟨_, (A), rs_, H', ⟨by first | omega | exact Nat.le_refl _⟩, ⟨bkn a⟩, ⟨bn HB⟩⟩
   ·obtain rfl := nt_ E; rw [if_neg nf_] at H; have H' := am H; clear H; have aa := c2 a
    go_wp2_with (first | ((with_reducible refine gate_callee (f := 109) rfl ?_); refine gl_ (some 12) Try.func109 #[.agg #[.int .i64 c, .slice l b.length m], .int .i64 d, .int .i64 g] ?_; (with_reducible refine (impl_twoKnots.calls k c _ _ b d g true _ ?z_1 ?z_2 M.out).mono ?_); (case z_1 => exact cb n HB); (case z_2 => exact o.out); rintro e w18 ⟨rfl, hb⟩; refine ⟨_, rfl, ?_⟩; replace a := bb a hb; replace HB := bs HB hb; (try clear hb); have ab := c2 a) | (go_at_call 121; (with_reducible refine (impl_Net_joined.calls k c _ _ b d g false _ ?z_1 ?z_2 W.out).mono ?_); (case z_1 => exact cb n HB); (case z_2 => exact o.out); rintro e w20 ⟨rfl, hb⟩; replace a := bb a hb; replace HB := bs HB hb; (try clear hb)))
    go_meet
    case rel => exact ⟨_, (true), rs_, H', ⟨by first | omega | exact Nat.le_refl _⟩, ⟨bkn a⟩, ⟨bn HB⟩⟩
  ·obtain rfl := nt_ D; rw [if_neg nf_] at H; have H' := am H; clear H; have ad := c2 a
   go_wp2_with (first | ((with_reducible refine gate_callee (f := 109) rfl ?_); refine gl_ (some 12) Try.func109 #[.agg #[.int .i64 c, .slice l b.length m], .int .i64 d, .int .i64 g] ?_; (with_reducible refine (impl_twoKnots.calls k c _ _ b d g false _ ?z_1 ?z_2 M.out).mono ?_); (case z_1 => exact cb n HB); (case z_2 => exact o.out); rintro e w22 ⟨rfl, hb⟩; refine ⟨_, rfl, ?_⟩; replace a := bb a hb; replace HB := bs HB hb; (try clear hb)))
   go_meet
   case rel => exact ⟨_, (true), rs_, H', ⟨by first | omega | exact Nat.le_refl _⟩, ⟨bkn a⟩, ⟨bn HB⟩⟩
 case rest =>
  clear L; (try clear D E X Y Z aa ab ad); obtain ⟨kq, B, rfl, HA, s, a, HB⟩ := hcut; cases kq with
  | zero => exact absurd HA.out (by simp [impl_TwoCut.j0])
  | succ kj3 =>
   have H := HA.out; clear HA; simp only [impl_TwoCut.j0] at H; by_cases O : B = true
   ·subst O; rw [if_pos rfl] at H; simp only [Option.some.injEq, Prod.mk.injEq] at H; obtain ⟨rfl, rfl⟩ := H; go_wp2
    go_ret2
    exact ⟨er_, bn HB⟩
   ·obtain rfl := nt_ O; rw [if_neg nf_] at H; have H' := am H; clear H; have aj := c2 a; go_wp2
    go_loopg [29] kj3 (fun kq ak w' => ∃ (i : Int), ak = .int .i64 i ∧ Aside0 (impl_TwoCut.l0 kq d g c i c b = some (x, y)) ∧ Aside0 (kq ≤ kj3) ∧ Bk w' U (.cells #[.int .i64 c, (.slice l b.length m)] 31 (0, 0)) ∧ Aside0 (Below w.heap.size w w'))
    case atStart => exact ⟨(0), rs_, H', ⟨Nat.le_refl _⟩, ⟨bkn a⟩, ⟨bn HB⟩⟩
    case round =>
     clear H'; (try clear c2 D E O X Y Z aa ab ad aj); obtain ⟨i, rfl, HA, t, a, HB⟩ := hrel; cases gk with
     | zero => exact absurd HA.out (by simp [impl_TwoCut.l0])
     | succ k2 =>
      have H := HA.out; clear HA; simp only [impl_TwoCut.l0] at H; by_cases u : i < c
      ·rw [if_pos u] at H; have al := decide_eq_true u; clear u; by_cases p : i = d
       ·rw [if_pos p] at H; have an : (i == d) = true := beq_iff_eq.mpr p; have ap : (i != d) = false := bne_eq_false_iff_eq.mpr p; clear p; have H' := am H; clear H; go_wp2
        go_roundg k2
        case measure => have := s.out; have := t.out; omega
        case rel => exact ⟨(wrap64 (i + 1)), rs_, H', ⟨by have := s.out; have := t.out; omega⟩, ⟨bkn a⟩, ⟨bn HB⟩⟩
       ·rw [if_neg p] at H; have an : (i == d) = false := beq_eq_false_iff_ne.mpr p; have ap : (i != d) = true := bne_iff_ne.mpr p; by_cases q : i = g
        ·rw [if_pos q] at H; have aq : (i == g) = true := beq_iff_eq.mpr q; have ar : (i != g) = false := bne_eq_false_iff_eq.mpr q; clear q; have H' := am H; clear H; go_wp2
         go_roundg k2
         case measure => have := s.out; have := t.out; omega
         case rel => exact ⟨(wrap64 (i + 1)), rs_, H', ⟨by have := s.out; have := t.out; omega⟩, ⟨bkn a⟩, ⟨bn HB⟩⟩
        ·rw [if_neg q] at H; have aq : (i == g) = false := beq_eq_false_iff_ne.mpr q; have ar : (i != g) = true := bne_iff_ne.mpr q; obtain ⟨⟨G, I⟩, ae, H⟩ := bi_ H; (try dsimp only at H); obtain ⟨au, af, H⟩ := bi_ H; by_cases ag : au = true
         ·subst ag; rw [if_pos rfl] at H; have H' := am H; clear H; have aA := c2 a
          go_wp2_with (first | (go_at_call 101; (with_reducible refine (impl_Net_without.calls k2 c _ _ b i G I _ ?z_1 ?z_2 ae.out).mono ?_); (case z_1 => exact cb n HB); (case z_2 => exact o.out); rintro e w32 ⟨av, rfl, z, hb⟩; have j := am (Kd.R_lower z (below_size (bn HB))); replace a := bb a hb; replace HB := bs HB hb; (try clear hb z); obtain ⟨aB, aC, aw⟩ := Kd.R_slice j.out; subst aw) | (go_at_call 121; (with_reducible refine (impl_Net_joined.calls k2 G _ _ I d g true _ ?z_1 ?z_2 af.out).mono ?_); (case z_1 => exact (Kd.R_reads' (onR j)).2.2); (case z_2 => exact (Kd.R_reads' j.out).2.1); rintro e w34 ⟨rfl, hb⟩; replace j := am (Kd.R_below (onR j) hb); replace a := bb a hb; replace HB := bs HB hb; (try clear hb)))
          go_roundg k2
          case measure => have := s.out; have := t.out; omega
          case rel => exact ⟨(wrap64 (i + 1)), rs_, H', ⟨by have := s.out; have := t.out; omega⟩, ⟨bkn a⟩, ⟨bn HB⟩⟩
         ·obtain rfl := nt_ ag; rw [if_neg nf_] at H; simp only [Option.some.injEq, Prod.mk.injEq] at H; obtain ⟨rfl, rfl⟩ := H; have aD := c2 a
          go_wp2_with (first | (go_at_call 101; (with_reducible refine (impl_Net_without.calls k2 c _ _ b i G I _ ?z_1 ?z_2 ae.out).mono ?_); (case z_1 => exact cb n HB); (case z_2 => exact o.out); rintro e w36 ⟨av, rfl, z, hb⟩; have j := am (Kd.R_lower z (below_size (bn HB))); replace a := bb a hb; replace HB := bs HB hb; (try clear hb z); obtain ⟨aE, aF, ax⟩ := Kd.R_slice j.out; subst ax) | (go_at_call 121; (with_reducible refine (impl_Net_joined.calls k2 G _ _ I d g false _ ?z_1 ?z_2 af.out).mono ?_); (case z_1 => exact (Kd.R_reads' (onR j)).2.2); (case z_2 => exact (Kd.R_reads' j.out).2.1); rintro e w38 ⟨rfl, hb⟩; replace j := am (Kd.R_below (onR j) hb); replace a := bb a hb; replace HB := bs HB hb; (try clear hb)))
          go_ret2
          exact ⟨er_, bn HB⟩
      ·rw [if_neg u] at H; have al := decide_eq_false u; clear u; simp only [Option.some.injEq, Prod.mk.injEq] at H; obtain ⟨rfl, rfl⟩ := H; go_wp2
       go_ret2
       exact ⟨er_, bn HB⟩

end Go.Proofs.Ythmddmobfkfgeaa.F
