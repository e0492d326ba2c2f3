-- By oprint.py.
import Derived.Test.YtlddkafpbhjpdaaF0
import Derived.Test.YtlddkafpbhjpdaaF19
import Derived.Test.YtlddkafpbhjpdaaF22
import Derived.Test.YtlddkafpbhjpdaaF23
import Derived.Test.YtlddkafpbhjpdaaF24
import Derived.Test.YtlddkafpbhjpdaaF4
namespace Go.Proofs.Ytlddkafpbhjpdaa.F
open Go.RowKit Go.Proofs.YtlddkafpbhjpdaaW.PrintWords Go.Proofs.YtlddkafpbhjpdaaW.PrintLast Go.Proofs.YtlddkafpbhjpdaaW.PrintMore
attribute [local go_sem] max2_int min2_int max_two min_two max_three min_three max_four min_four
set_option linter.unusedVariables false
set_option linter.unusedSimpArgs false

/-! ### laws_FnBridgeIs: function 5 -/
def laws_FnBridgeIs.j0 : Nat → Int → Int → Bool → Bool → Int → List (S44) → Option (Bool)
 | 0, _, _, _, _, _, _ => none
 | k + 1, x4, x5, x6, x32, x744000, x744001 => if x32 = true then ((spec_BridgeIs.f k x744000 x744001 x4 x5).bind fun t747 => (if (x6 == t747) = true then (if x6 = true then ((spec_NetHas.f k x744000 x744001 x4 x5).bind fun t748 => (some t748)) else (some true)) else (some false))) else ((laws_loBeside.f k x744000 x744001 x4 x5).bind fun t749 => (if (x6 != t749) = true then ((impl_WayAll.f k x744000 x744001 x4 x5).bind fun t750 => (if (x6 == ((t750.length : Int) == 1)) = true then ((impl_BridgeIs.f k x744000 x744001 x5 x4).bind fun t753 => (some (t753 == x6))) else (some false))) else (some false)))
def laws_FnBridgeIs.f (k : Nat) (l0 : List Int) : Option (Bool) := if (l0.length : Int) > 1048576 then (some true) else ((spec_DrawBridgeIs.f k l0).bind fun bt737 => ((impl_BridgeIs.f k bt737.1 bt737.2.1 bt737.2.2.1 bt737.2.2.2).bind fun t744 => ((spec_BridgeIs.f k bt737.1 bt737.2.1 bt737.2.2.1 bt737.2.2.2).bind fun t745 => (if (t744 != t745) = true then (laws_FnBridgeIs.j0 k bt737.2.2.1 bt737.2.2.2 t744 true bt737.1 bt737.2.1) else ((spec_NetHas.f k bt737.1 bt737.2.1 bt737.2.2.1 bt737.2.2.2).bind fun t746 => (laws_FnBridgeIs.j0 k bt737.2.2.1 bt737.2.2.2 t744 (!t746) bt737.1 bt737.2.1))))))
theorem laws_FnBridgeIs.mono_l : ∀ k, (∀ a b c d e f, LeO (laws_FnBridgeIs.j0 k a b c d e f) (laws_FnBridgeIs.j0 (k + 1) a b c d e f))
 | 0 => fun _ _ _ _ _ _ r h => by simp [laws_FnBridgeIs.j0] at h
 | k + 1 => by
  have ih0 := laws_FnBridgeIs.mono_l k
  ·intro a b c d e f; unfold laws_FnBridgeIs.j0; have m0_ := @impl_BridgeIs.mono; have m1_ := @impl_WayAll.mono; have m2_ := @laws_loBeside.mono; have m3_ := @spec_BridgeIs.mono; have m4_ := @spec_DrawBridgeIs.mono; have m5_ := @spec_NetHas.mono; exact mo_
theorem laws_FnBridgeIs.mono : ∀ a k, LeO (laws_FnBridgeIs.f k a) (laws_FnBridgeIs.f (k + 1) a) := by
 intro a k; have ih0 := laws_FnBridgeIs.mono_l k; unfold laws_FnBridgeIs.f; have m0_ := @impl_BridgeIs.mono; have m1_ := @impl_WayAll.mono; have m2_ := @laws_loBeside.mono; have m3_ := @spec_BridgeIs.mono; have m4_ := @spec_DrawBridgeIs.mono; have m5_ := @spec_NetHas.mono; exact mo_
set_option maxHeartbeats 8000000 in
set_option maxRecDepth 100000 in
theorem laws_FnBridgeIs.calls (k : Nat) (K : Option Addr) (L : Nat) (p : List Int) (r : Bool) (w : World) (P : Kd.C (Kd.int .u8) w K p.length p) (T : p.length ≤ L) (hrt : Aside0 (r = true)) (h : laws_FnBridgeIs.f k p = some r) :
  Calls Try.prog 5 #[.slice K p.length L] w fun e w' => e = .returned (.bool r) ∧ Below w.heap.size w w' := by
 have aI := Try.underlying25; have ae := am P; have af := am T; clear P T; have HB := am (Below.refl w.heap.size w)
 have H : (if (p.length : Int) > 1048576 then (some true) else ((spec_DrawBridgeIs.f k p).bind fun j => ((impl_BridgeIs.f k j.1 j.2.1 j.2.2.1 j.2.2.2).bind fun a => ((spec_BridgeIs.f k j.1 j.2.1 j.2.2.1 j.2.2.2).bind fun q => (if (a != q) = true then (laws_FnBridgeIs.j0 k j.2.2.1 j.2.2.2 a true j.1 j.2.1) else ((spec_NetHas.f k j.1 j.2.1 j.2.2.1 j.2.2.2).bind fun I => (laws_FnBridgeIs.j0 k j.2.2.1 j.2.2.2 a (!I) j.1 j.2.1))))))) = some r := h
 clear h; by_cases c2 : (p.length : Int) > 1048576
 ·rw [if_pos c2] at H; have U := decide_eq_true c2; have W : decide (1048576 < p.length) = true := decide_eq_true (by omega); clear c2; obtain rfl := Option.some.inj H; go_enter Try.func5, Try.ntmps5; go_wp2
  go_ret
  exact ⟨er_, bn HB⟩
 ·rw [if_neg c2] at H; have U := decide_eq_false c2; have W : decide (1048576 < p.length) = false := decide_eq_false (by omega); clear c2; obtain ⟨⟨l, g, m, o⟩, A3, H⟩ := bi_ H; (try dsimp only at H); obtain ⟨a, A4, H⟩ := bi_ H; have M := am H; clear H; go_enter Try.func5, Try.ntmps5
  go_upto_region 5 with (first | ((with_reducible refine gate_callee (f := 20) rfl ?_); refine gl_ (some 12) Try.func20 #[.slice K p.length L] ?_; (with_reducible refine (spec_DrawBridgeIs.calls k _ _ p l g m o _ ?z_1 ?z_2 A3.out).mono ?_); (case z_1 => repeat (first | exact ae.out | (with_reducible refine Kd.C_alloc ?_ _) | (with_reducible refine Kd.C_drewN ?_ _) | (with_reducible refine Kd.C_drew ?_))); (case z_2 => exact af.out); rintro e w6 ⟨aJ, rfl, G, hb⟩; refine ⟨_, rfl, ?_⟩; have i := am (Kd.R_lower G (below_size (bn HB))); replace HB := bs HB hb; (try clear hb G)) | ((with_reducible refine gate_dst (N := 3) rfl ?_); refine bx_ 3 #[.int .i64 0, .slice none 0 0] 25 HB ?_; clear HB; intro ag hg w7 hb b aK HB; replace i := am (Kd.R_below (onR i) hb); clear hb hg; have ah := c2 b; obtain ⟨D, z, ai⟩ := Kd.R_slice i.out; subst ai) | ((with_reducible refine gate_callee (f := 21) rfl ?_); refine gl_ (some 19) Try.func21 #[.agg #[.int .i64 l, .slice D g.length z], .int .i64 m, .int .i64 o] ?_; (with_reducible refine (impl_BridgeIs.calls k l _ _ g m o a _ ?z_1 ?z_2 A4.out).mono ?_); (case z_1 => refine (Kd.R_reads' (e := 44) (base := w.heap.size) (ok := fun k_ => True) (n := g.length) (c := z) ?_).2.2; exact (onR i)); (case z_2 => exact (Kd.R_reads' i.out).2.1); rintro e w10 ⟨rfl, hb⟩; refine ⟨_, rfl, ?_⟩; replace i := am (Kd.R_below (onR i) hb); replace b := bb b hb; replace HB := bs HB hb; (try clear hb)))
  (try simp only [Act.put, List.setIfInBounds_toArray, List.set_cons_zero, List.set_cons_succ])
  go_cut [32] (fun aj wc => ∃ (kq : Nat) (J : Bool), aj = .bool J ∧ Aside0 (laws_FnBridgeIs.j0 kq m o a J l g = some r) ∧ Aside0 (kq ≤ k) ∧ Aside0 (Kd.R k44 44 wc w.heap.size (fun _ => True) (.slice D g.length z) g) ∧ Bk wc ag (.cells #[.int .i64 l, (.slice D g.length z)] 25 (0, 0)) ∧ Aside0 (Below w.heap.size w wc))
  case first =>
   have H := M.out; clear M; obtain ⟨q, X, H⟩ := bi_ H; by_cases s : (a != q) = true
   ·rw [if_pos s] at H; have E : (a != q) = true := s; (try (have Y : decide (a = q) = false := by simpa using s)); (try (have Z : (a == q) = false := by simpa using s)); (try (have aL : ¬ (a = q) := by simpa using s)); clear s; (first | rw [E] | (simp only [i64_w, i32_w]; rw [E]) | skip); have H' := am H; clear H; have ak := c2 b
    go_wp2_with (first | ((with_reducible refine gate_callee (f := 22) rfl ?_); refine gl_ (some 24) Try.func22 #[.agg #[.int .i64 l, .slice D g.length z], .int .i64 m, .int .i64 o] ?_; (with_reducible refine (spec_BridgeIs.calls k l _ _ g m o q _ ?z_1 ?z_2 X.out).mono ?_); (case z_1 => exact (Kd.R_reads' (onR i)).2.2); (case z_2 => exact (Kd.R_reads' i.out).2.1); rintro e w14 ⟨rfl, hb⟩; refine ⟨_, rfl, ?_⟩; replace i := am (Kd.R_below (onR i) hb); replace b := bb b hb; replace HB := bs HB hb; (try clear hb)))
    go_meet
    case rel => exact ⟨_, (true), rs_, H', ⟨by first | omega | exact Nat.le_refl _⟩, ⟨onR i⟩, ⟨bkn b⟩, ⟨bn HB⟩⟩
   ·rw [if_neg s] at H; have E : (a != q) = false := by simpa using s
    (try (have Y : decide (a = q) = true := by simpa using s)); (try (have Z : (a == q) = true := by simpa using s)); clear s; (first | rw [E] | (simp only [i64_w, i32_w]; rw [E]) | skip); obtain ⟨I, al, H⟩ := bi_ H; have H' := am H; clear H; have an := c2 b
    go_wp2_with (first | ((with_reducible refine gate_callee (f := 22) rfl ?_); refine gl_ (some 24) Try.func22 #[.agg #[.int .i64 l, .slice D g.length z], .int .i64 m, .int .i64 o] ?_; (with_reducible refine (spec_BridgeIs.calls k l _ _ g m o q _ ?z_1 ?z_2 X.out).mono ?_); (case z_1 => exact (Kd.R_reads' (onR i)).2.2); (case z_2 => exact (Kd.R_reads' i.out).2.1); rintro e w17 ⟨rfl, hb⟩; refine ⟨_, rfl, ?_⟩; replace i := am (Kd.R_below (onR i) hb); replace b := bb b hb; replace HB := bs HB hb; (try clear hb); have ap := c2 b) | (go_at_call 23; (with_reducible refine (spec_NetHas.calls k l _ _ g m o I _ ?z_1 ?z_2 al.out).mono ?_); (case z_1 => exact (Kd.R_reads' (onR i)).2.2); (case z_2 => exact (Kd.R_reads' i.out).2.1); rintro e w19 ⟨rfl, hb⟩; replace i := am (Kd.R_below (onR i) hb); replace b := bb b hb; replace HB := bs HB hb; (try clear hb)))
    go_meet
    case rel => exact ⟨_, (!I), rs_, H', ⟨by first | omega | exact Nat.le_refl _⟩, ⟨onR i⟩, ⟨bkn b⟩, ⟨bn HB⟩⟩
  case rest =>
   clear M; (try clear c2 U W s E Y Z ak an ap ah); obtain ⟨kq, J, rfl, HA, HJ4, d, b, HB⟩ := hcut; cases kq with
   | zero => exact absurd HA.out (by simp [laws_FnBridgeIs.j0])
   | succ kj4 =>
    have H := HA.out; clear HA; simp only [laws_FnBridgeIs.j0] at H; by_cases aa : J = true
    ·subst aa; rw [if_pos rfl] at H; obtain ⟨y, ab, H⟩ := bi_ H; by_cases t : (a == y) = true
     ·rw [if_pos t] at H; have aq : (a == y) = true := t; (try (have ar : decide (a = y) = true := by simpa using t)); (try (have au : (a == y) = true := by simpa using t)); clear t; by_cases ad : a = true
      ·subst ad; rw [if_pos rfl] at H; obtain ⟨av, aw, H⟩ := bi_ H; obtain rfl := Option.some.inj H; have aM := c2 b
       go_wp2_with (first | ((with_reducible refine gate_callee (f := 22) rfl ?_); refine gl_ (some 37) Try.func22 #[.agg #[.int .i64 l, .slice D g.length z], .int .i64 m, .int .i64 o] ?_; (with_reducible refine (spec_BridgeIs.calls kj4 l _ _ g m o y _ ?z_1 ?z_2 ab.out).mono ?_); (case z_1 => exact (Kd.R_reads' (onR d)).2.2); (case z_2 => exact (Kd.R_reads' d.out).2.1); rintro e w26 ⟨rfl, hb⟩; refine ⟨_, rfl, ?_⟩; replace d := am (Kd.R_below (onR d) hb); replace b := bb b hb; replace HB := bs HB hb; (try clear hb); have aN := c2 b) | (go_at_call 23; (with_reducible refine (spec_NetHas.calls kj4 l _ _ g m o av _ ?z_1 ?z_2 aw.out).mono ?_); (case z_1 => exact (Kd.R_reads' (onR d)).2.2); (case z_2 => exact (Kd.R_reads' d.out).2.1); rintro e w28 ⟨rfl, hb⟩; replace d := am (Kd.R_below (onR d) hb); replace b := bb b hb; replace HB := bs HB hb; (try clear hb)))
       go_ret
       exact ⟨er_, bn HB⟩
      ·obtain rfl := nt_ ad; rw [if_neg nf_] at H; obtain rfl := Option.some.inj H; have aO := c2 b
       go_wp2_with (first | ((with_reducible refine gate_callee (f := 22) rfl ?_); refine gl_ (some 37) Try.func22 #[.agg #[.int .i64 l, .slice D g.length z], .int .i64 m, .int .i64 o] ?_; (with_reducible refine (spec_BridgeIs.calls kj4 l _ _ g m o y _ ?z_1 ?z_2 ab.out).mono ?_); (case z_1 => exact (Kd.R_reads' (onR d)).2.2); (case z_2 => exact (Kd.R_reads' d.out).2.1); rintro e w30 ⟨rfl, hb⟩; refine ⟨_, rfl, ?_⟩; replace d := am (Kd.R_below (onR d) hb); replace b := bb b hb; replace HB := bs HB hb; (try clear hb)))
       go_ret
       exact ⟨er_, bn HB⟩
     ·rw [if_neg t] at H; have aq : (a == y) = false := by simpa using t
      (try (have ar : decide (a = y) = false := by simpa using t)); (try (have au : (a == y) = false := by simpa using t)); (try (have aP : ¬ (a = y) := by simpa using t)); clear t; exact absurd (Option.some.inj H) (by rw [hrt.out]; decide)
    ·obtain rfl := nt_ aa; rw [if_neg nf_] at H; obtain ⟨A, ax, H⟩ := bi_ H; by_cases u : (a != A) = true
     ·rw [if_pos u] at H; have ay : (a != A) = true := u; (try (have az : decide (a = A) = false := by simpa using u)); (try (have aA : (a == A) = false := by simpa using u)); (try (have aQ : ¬ (a = A) := by simpa using u)); clear u; obtain ⟨B, aB, H⟩ := bi_ H; by_cases x : (a == ((B.length : Int) == 1)) = true
      ·rw [if_pos x] at H; have aC : (a == ((B.length : Int) == 1)) = true := x; (try (have aD : decide (a = ((B.length : Int) == 1)) = true := by simpa using x)); (try (have aE : (a == ((B.length : Int) == 1)) = true := by simpa using x)); clear x; obtain ⟨aF, aG, H⟩ := bi_ H; obtain rfl := Option.some.inj H; have aR := c2 b
       go_wp2_with (first | ((with_reducible refine gate_callee (f := 24) rfl ?_); refine gl_ (some 53) Try.func24 #[.agg #[.int .i64 l, .slice D g.length z], .int .i64 m, .int .i64 o] ?_; (with_reducible refine (laws_loBeside.calls kj4 l _ _ g m o A _ ?z_1 ?z_2 ax.out).mono ?_); (case z_1 => exact (Kd.R_reads' (onR d)).2.2); (case z_2 => exact (Kd.R_reads' d.out).2.1); rintro e w37 ⟨rfl, hb⟩; refine ⟨_, rfl, ?_⟩; replace d := am (Kd.R_below (onR d) hb); replace b := bb b hb; replace HB := bs HB hb; (try clear hb); have aS := c2 b) | (go_at_call 17; (with_reducible refine (impl_WayAll.calls kj4 l _ _ g m o B _ ?z_1 ?z_2 aB.out).mono ?_); (case z_1 => exact (Kd.R_reads' (onR d)).2.2); (case z_2 => exact (Kd.R_reads' d.out).2.1); rintro e w39 ⟨aT, rfl, G, hb⟩; replace d := am (Kd.R_below (onR d) hb); have O := am (Kd.S_lower G (below_size (bn HB))); replace b := bb b hb; replace HB := bs HB hb; (try clear hb G); obtain ⟨aU, aV, aH⟩ := Kd.S_slice O.out; subst aH; have aW := c2 b) | (go_at_call 21; (with_reducible refine (impl_BridgeIs.calls kj4 l _ _ g o m aF _ ?z_1 ?z_2 aG.out).mono ?_); (case z_1 => exact (Kd.R_reads' (onR d)).2.2); (case z_2 => exact (Kd.R_reads' d.out).2.1); rintro e w42 ⟨rfl, hb⟩; replace d := am (Kd.R_below (onR d) hb); replace O := am (Kd.S_below (onS O) hb); replace b := bb b hb; replace HB := bs HB hb; (try clear hb)))
       go_ret
       exact ⟨er_, bn HB⟩
      ·rw [if_neg x] at H; have aC : (a == ((B.length : Int) == 1)) = false := by simpa using x
       (try (have aD : decide (a = ((B.length : Int) == 1)) = false := by simpa using x)); (try (have aE : (a == ((B.length : Int) == 1)) = false := by simpa using x)); (try (have aX : ¬ (a = ((B.length : Int) == 1)) := by simpa using x)); clear x; exact absurd (Option.some.inj H) (by rw [hrt.out]; decide)
     ·rw [if_neg u] at H; have ay : (a != A) = false := by simpa using u
      (try (have az : decide (a = A) = true := by simpa using u)); (try (have aA : (a == A) = true := by simpa using u)); clear u; exact absurd (Option.some.inj H) (by rw [hrt.out]; decide)

/-- what is to be proved of laws_FnBridgeIs, without Go -/
def laws_FnBridgeIs.Pure : Prop := ∀ (l0 : List Int), (l0.length ≤ maxLen ∧ ∀ l0_ ∈ l0, ((Lit.int .u8 l0_).wf = true)) → ∃ k, laws_FnBridgeIs.f k l0 = some true

end Go.Proofs.Ytlddkafpbhjpdaa.F
