-- By oprint.py.
import Derived.Test.YthmddmobfkfgeaaF0
import Derived.Test.YthmddmobfkfgeaaF21
import Derived.Test.YthmddmobfkfgeaaF6
import Derived.Test.YthmddmobfkfgeaaF60
import Derived.Test.YthmddmobfkfgeaaF72
import Derived.Test.YthmddmobfkfgeaaF76
import Derived.Test.YthmddmobfkfgeaaF78
import Derived.Test.YthmddmobfkfgeaaF81
namespace Go.Proofs.Ythmddmobfkfgeaa.F
open Go.RowKit Go.Proofs.YthmddmobfkfgeaaW.PrintWords Go.Proofs.YthmddmobfkfgeaaW.PrintLast Go.Proofs.YthmddmobfkfgeaaW.PrintMore
attribute [local go_sem] max2_int min2_int max_two min_two max_three min_three max_four min_four
set_option linter.unusedVariables false
set_option linter.unusedSimpArgs false

/-! ### laws_FnTwoTop: function 20 -/
mutual
def laws_FnTwoTop.j0 : Nat → Int → Int → Bool → Bool → Bool → Int → List (S33) → Option (Bool)
 | 0, _, _, _, _, _, _, _ => none
 | k + 1, x4, x5, x11, x13, x71, x1632000, x1632001 => if x71 = true then (some false) else ((spec_WayReach.f k x1632000 x1632001 x4).bind fun t1650 => (if (t1650.length : Int) = 0 then (laws_FnTwoTop.j1 k x4 x5 x11 x13 t1650 true x1632000 x1632001) else (if x5 < 0 then (laws_FnTwoTop.j1 k x4 x5 x11 x13 t1650 true x1632000 x1632001) else (if x5 ≥ (t1650.length : Int) then (laws_FnTwoTop.j1 k x4 x5 x11 x13 t1650 true x1632000 x1632001) else (laws_FnTwoTop.j1 k x4 x5 x11 x13 t1650 (x4 == x5) x1632000 x1632001)))))
def laws_FnTwoTop.j1 : Nat → Int → Int → Bool → Bool → List Bool → Bool → Int → List (S33) → Option (Bool)
 | 0, _, _, _, _, _, _, _, _ => none
 | k + 1, x4, x5, x11, x13, x16, x92, x1632000, x1632001 => if x92 = true then (if x11 = true then (some false) else (some (!x13))) else ((spec_NetHas.f k x1632000 x1632001 x4 x5).bind fun t1653 => (if t1653 = true then ((impl_BridgeIs.f k x1632000 x1632001 x4 x5).bind fun t1654 => (laws_FnTwoTop.j2 k x5 x11 x13 x16 t1654)) else (laws_FnTwoTop.j2 k x5 x11 x13 x16 false)))
def laws_FnTwoTop.j2 : Nat → Int → Bool → Bool → List Bool → Bool → Option (Bool)
 | 0, _, _, _, _, _ => none
 | k + 1, x5, x11, x13, x16, x17 => laws_FnTwoTop.l0 k x5 x11 x13 x16 x17 0 0
def laws_FnTwoTop.l0 : Nat → Int → Bool → Bool → List Bool → Bool → Int → Int → Option (Bool)
 | 0, _, _, _, _, _, _, _ => none
 | k + 1, x5, x11, x13, x16, x17, x18, x19 => if x19 < 4 then (if 0 ≤ x5 then (if x5 < (x16.length : Int) then ((some (([x11, x13, x17, !(rdOf false x16 x5)] : List Bool) : List Bool)).bind fun y1656 => (if 0 ≤ x19 then (if x19 < (y1656.length : Int) then (if rdOf false y1656 x19 = true then (laws_FnTwoTop.l0 k x5 x11 x13 x16 x17 (wrap64 (x18 + 1)) (wrap64 (x19 + 1))) else (laws_FnTwoTop.l0 k x5 x11 x13 x16 x17 x18 (wrap64 (x19 + 1)))) else (none)) else (none))) else (none)) else (none)) else (some (x18 == 1))
end
def laws_FnTwoTop.f (k : Nat) (l0 : List Int) : Option (Bool) := if (l0.length : Int) > 1048576 then (some true) else ((spec_DrawTwoFind.f k l0).bind fun bt1625 => ((spec_TwoFind.f k bt1625.1 bt1625.2.1 bt1625.2.2.1 bt1625.2.2.2).bind fun bt1632 => ((impl_TwoFind.f k bt1625.1 bt1625.2.1 bt1625.2.2.1 bt1625.2.2.2).bind fun bt1639 => ((impl_TwoCut.f k bt1625.1 bt1625.2.1 bt1625.2.2.1 bt1625.2.2.2).bind fun bt1646 => ((spec_TwoCut.f k bt1625.1 bt1625.2.1 bt1625.2.2.1 bt1625.2.2.2).bind fun bt1648 => (if (bt1639.2.2 != bt1632.2.2) = true then (laws_FnTwoTop.j0 k bt1625.2.2.1 bt1625.2.2.2 bt1639.2.2 bt1646.2 true bt1625.1 bt1625.2.1) else (if (bt1646.2 != bt1648.2) = true then (laws_FnTwoTop.j0 k bt1625.2.2.1 bt1625.2.2.2 bt1639.2.2 bt1646.2 true bt1625.1 bt1625.2.1) else (laws_FnTwoTop.j0 k bt1625.2.2.1 bt1625.2.2.2 bt1639.2.2 bt1646.2 (bt1646.1 != bt1648.1) bt1625.1 bt1625.2.1))))))))
theorem laws_FnTwoTop.mono_l : ∀ k, (∀ a b c d e f g, LeO (laws_FnTwoTop.j0 k a b c d e f g) (laws_FnTwoTop.j0 (k + 1) a b c d e f g)) ∧ (∀ a b c d e f g i, LeO (laws_FnTwoTop.j1 k a b c d e f g i) (laws_FnTwoTop.j1 (k + 1) a b c d e f g i)) ∧ (∀ a b c d e, LeO (laws_FnTwoTop.j2 k a b c d e) (laws_FnTwoTop.j2 (k + 1) a b c d e)) ∧ (∀ a b c d e f g, LeO (laws_FnTwoTop.l0 k a b c d e f g) (laws_FnTwoTop.l0 (k + 1) a b c d e f g))
 | 0 => ⟨fun _ _ _ _ _ _ _ r h => by simp [laws_FnTwoTop.j0] at h, fun _ _ _ _ _ _ _ _ r h => by simp [laws_FnTwoTop.j1] at h, fun _ _ _ _ _ r h => by simp [laws_FnTwoTop.j2] at h, fun _ _ _ _ _ _ _ r h => by simp [laws_FnTwoTop.l0] at h⟩
 | k + 1 => by
  obtain ⟨ih0, ih1, ih2, ih3⟩ := laws_FnTwoTop.mono_l k; refine ⟨?_, ?_, ?_, ?_⟩
  ·intro a b c d e f g; unfold laws_FnTwoTop.j0; have j := @impl_BridgeIs.mono; have l := @impl_TwoCut.mono; have m := @impl_TwoFind.mono; have n := @spec_DrawTwoFind.mono; have o := @spec_NetHas.mono; have p := @spec_TwoCut.mono; have q := @spec_TwoFind.mono; have s := @spec_WayReach.mono; exact mo_
  ·intro a b c d e f g i; unfold laws_FnTwoTop.j1; have j := @impl_BridgeIs.mono; have l := @impl_TwoCut.mono; have m := @impl_TwoFind.mono; have n := @spec_DrawTwoFind.mono; have o := @spec_NetHas.mono; have p := @spec_TwoCut.mono; have q := @spec_TwoFind.mono; have s := @spec_WayReach.mono; exact mo_
  ·intro a b c d e; unfold laws_FnTwoTop.j2; have j := @impl_BridgeIs.mono; have l := @impl_TwoCut.mono; have m := @impl_TwoFind.mono; have n := @spec_DrawTwoFind.mono; have o := @spec_NetHas.mono; have p := @spec_TwoCut.mono; have q := @spec_TwoFind.mono; have s := @spec_WayReach.mono; exact mo_
  ·intro a b c d e f g; unfold laws_FnTwoTop.l0; have j := @impl_BridgeIs.mono; have l := @impl_TwoCut.mono; have m := @impl_TwoFind.mono; have n := @spec_DrawTwoFind.mono; have o := @spec_NetHas.mono; have p := @spec_TwoCut.mono; have q := @spec_TwoFind.mono; have s := @spec_WayReach.mono; exact mo_
theorem laws_FnTwoTop.mono : ∀ a k, LeO (laws_FnTwoTop.f k a) (laws_FnTwoTop.f (k + 1) a) := by
 intro a k; obtain ⟨ih0, ih1, ih2, ih3⟩ := laws_FnTwoTop.mono_l k; unfold laws_FnTwoTop.f; have m0_ := @impl_BridgeIs.mono; have m1_ := @impl_TwoCut.mono; have m2_ := @impl_TwoFind.mono; have m3_ := @spec_DrawTwoFind.mono; have m4_ := @spec_NetHas.mono; have m5_ := @spec_TwoCut.mono; have m6_ := @spec_TwoFind.mono; have m7_ := @spec_WayReach.mono; exact mo_
set_option maxHeartbeats 8000000 in
set_option maxRecDepth 100000 in
theorem laws_FnTwoTop.calls (k : Nat) (A0 : Option Addr) (c0 : Nat) (l0 : List Int) (r : Bool) (w : World) (a6 : Kd.C (Kd.int .u8) w A0 l0.length l0) (a7 : l0.length ≤ c0) (hrt : Aside0 (r = true)) (h : laws_FnTwoTop.f k l0 = some r) :
  Calls Try.prog 20 #[.slice A0 l0.length c0] w fun e w' => e = .returned (.bool r) ∧ Below w.heap.size w w' := by
 have bT := Try.underlying31; have bl := am a6; have bo := am a7; clear a6 a7; have HB := am (Below.refl w.heap.size w)
 have H : (if (l0.length : Int) > 1048576 then (some true) else ((spec_DrawTwoFind.f k l0).bind fun l => ((spec_TwoFind.f k l.1 l.2.1 l.2.2.1 l.2.2.2).bind fun bp => ((impl_TwoFind.f k l.1 l.2.1 l.2.2.1 l.2.2.2).bind fun az => ((impl_TwoCut.f k l.1 l.2.1 l.2.2.1 l.2.2.2).bind fun ak => ((spec_TwoCut.f k l.1 l.2.1 l.2.2.1 l.2.2.2).bind fun a8 => (if (az.2.2 != bp.2.2) = true then (laws_FnTwoTop.j0 k l.2.2.1 l.2.2.2 az.2.2 ak.2 true l.1 l.2.1) else (if (ak.2 != a8.2) = true then (laws_FnTwoTop.j0 k l.2.2.1 l.2.2.2 az.2.2 ak.2 true l.1 l.2.1) else (laws_FnTwoTop.j0 k l.2.2.1 l.2.2.2 az.2.2 ak.2 (ak.1 != a8.1) l.1 l.2.1))))))))) = some r := h
 clear h; by_cases c2 : (l0.length : Int) > 1048576
 ·rw [if_pos c2] at H; have al := decide_eq_true c2; have an : decide (1048576 < l0.length) = true := decide_eq_true (by omega); clear c2; obtain rfl := Option.some.inj H; go_enter Try.func20, Try.ntmps20; go_wp2
  go_ret
  exact ⟨er_, bn HB⟩
 ·rw [if_neg c2] at H; have al := decide_eq_false c2; have an : decide (1048576 < l0.length) = false := decide_eq_false (by omega); clear c2; obtain ⟨⟨q, d, y, b⟩, A3, H⟩ := bi_ H; (try dsimp only at H); obtain ⟨⟨br, bu, J⟩, A4, H⟩ := bi_ H; (try dsimp only at H); obtain ⟨⟨bv, bw, m⟩, A5, H⟩ := bi_ H; (try dsimp only at H); obtain ⟨⟨a9, p⟩, A6, H⟩ := bi_ H; (try dsimp only at H); obtain ⟨⟨ba, K⟩, A7, H⟩ := bi_ H; (try dsimp only at H); have aS := am H; clear H; go_enter Try.func20, Try.ntmps20
  go_upto_region 8 with (first | ((with_reducible refine gate_callee (f := 73) rfl ?_); refine gl_ (some 25) Try.func73 #[.slice A0 l0.length c0] ?_; (with_reducible refine (spec_DrawTwoFind.calls k _ _ l0 q d y b _ ?z_1 ?z_2 A3.out).mono ?_); (case z_1 => repeat (first | exact bl.out | (with_reducible refine Kd.C_alloc ?_ _) | (with_reducible refine Kd.C_drewN ?_ _) | (with_reducible refine Kd.C_drew ?_))); (case z_2 => exact bo.out); rintro e w9 ⟨bU, rfl, E, hb⟩; refine ⟨_, rfl, ?_⟩; have s := am (Kd.R_lower E (below_size (bn HB))); replace HB := bs HB hb; (try clear hb E)) | ((with_reducible refine gate_dst (N := 3) rfl ?_); refine bx_ 3 #[.int .i64 0, .slice none 0 0] 31 HB ?_; clear HB; intro U hg w10 hb a bV HB; replace s := am (Kd.R_below (onR s) hb); clear hb hg; have aA := c2 a; obtain ⟨z, u, bx⟩ := Kd.R_slice s.out; subst bx) | ((with_reducible refine gate_callee (f := 69) rfl ?_); refine gl_ (some 33) Try.func69 #[.agg #[.int .i64 q, .slice z d.length u], .int .i64 y, .int .i64 b] ?_; (with_reducible refine (spec_TwoFind.calls k q _ _ d y b br bu J _ ?z_1 ?z_2 A4.out).mono ?_); (case z_1 => refine (Kd.R_reads' (e := 33) (base := w.heap.size) (ok := fun k_ => True) (n := d.length) (c := u) ?_).2.2; exact (onR s)); (case z_2 => exact (Kd.R_reads' s.out).2.1); rintro e w13 ⟨bW, bX, rfl, E, Y, hb⟩; refine ⟨_, rfl, ?_⟩; have ae := am (Kd.V_lower (Kd.V_mono (ok' := fun k_ => some k_ ≠ (.slice z d.length u : Value).ownBlock ∧ k_ ≠ U) E (fun k_ hk_ => ⟨(Kd.fresh' (Kd.R_lt (onR s)) k_ hk_), (Kd.freshB (g := U) (o := .cells #[.int .i64 q, .slice z d.length u] 31 (0, 0)) (bkn a) k_ hk_)⟩)) (below_size (bn HB))); have af := am (Kd.V_lower (Kd.V_mono (ok' := fun k_ => some k_ ≠ (.slice z d.length u : Value).ownBlock ∧ k_ ≠ U) Y (fun k_ hk_ => ⟨(Kd.fresh' (Kd.R_lt (onR s)) k_ hk_), (Kd.freshB (g := U) (o := .cells #[.int .i64 q, .slice z d.length u] 31 (0, 0)) (bkn a) k_ hk_)⟩)) (below_size (bn HB))); replace s := am (Kd.R_below (onR s) hb); replace a := bb a hb; replace HB := bs HB hb; (try clear hb E Y); have aB := c2 a) | ((with_reducible refine gate_callee (f := 60) rfl ?_); refine gl_ (some 41) Try.func60 #[.agg #[.int .i64 q, .slice z d.length u], .int .i64 y, .int .i64 b] ?_; (with_reducible refine (impl_TwoFind.calls k q _ _ d y b bv bw m _ ?z_1 ?z_2 A5.out).mono ?_); (case z_1 => exact (Kd.R_reads' (onR s)).2.2); (case z_2 => exact (Kd.R_reads' s.out).2.1); rintro e w15 ⟨bY, bZ, rfl, E, Y, hb⟩; refine ⟨_, rfl, ?_⟩; replace s := am (Kd.R_below (onR s) hb); replace ae := am (Kd.V_mono (Kd.V_told (Kd.V_told (Kd.V_old (onV ae) hb) (Kd.R_base E)) (Kd.R_base Y)) (fun _ h_ => h_.1)); replace af := am (Kd.V_mono (Kd.V_told (Kd.V_told (Kd.V_old (onV af) hb) (Kd.R_base E)) (Kd.R_base Y)) (fun _ h_ => h_.1)); have aC := am (Kd.R_lower E (below_size (bn HB))); have aD := am (Kd.R_lower Y (below_size (bn HB))); replace a := bb a hb; replace HB := bs HB hb; (try clear hb E Y); have aE := c2 a) | ((with_reducible refine gate_callee (f := 74) rfl ?_); refine gl_ (some 49) Try.func74 #[.agg #[.int .i64 q, .slice z d.length u], .int .i64 y, .int .i64 b] ?_; (with_reducible refine (impl_TwoCut.calls k q _ _ d y b a9 p _ ?z_1 ?z_2 A6.out).mono ?_); (case z_1 => exact (Kd.R_reads' (onR s)).2.2); (case z_2 => exact (Kd.R_reads' s.out).2.1); rintro e w17 ⟨rfl, hb⟩; refine ⟨_, rfl, ?_⟩; replace s := am (Kd.R_below (onR s) hb); replace ae := am (Kd.V_below (onV ae) hb); replace af := am (Kd.V_below (onV af) hb); replace aC := am (Kd.R_below (onR aC) hb); replace aD := am (Kd.R_below (onR aD) hb); replace a := bb a hb; replace HB := bs HB hb; (try clear hb); have aF := c2 a) | ((with_reducible refine gate_callee (f := 76) rfl ?_); refine gl_ (some 56) Try.func76 #[.agg #[.int .i64 q, .slice z d.length u], .int .i64 y, .int .i64 b] ?_; (with_reducible refine (spec_TwoCut.calls k q _ _ d y b ba K _ ?z_1 ?z_2 A7.out).mono ?_); (case z_1 => exact (Kd.R_reads' (onR s)).2.2); (case z_2 => exact (Kd.R_reads' s.out).2.1); rintro e w19 ⟨rfl, hb⟩; refine ⟨_, rfl, ?_⟩; replace s := am (Kd.R_below (onR s) hb); replace ae := am (Kd.V_below (onV ae) hb); replace af := am (Kd.V_below (onV af) hb); replace aC := am (Kd.R_below (onR aC) hb); replace aD := am (Kd.R_below (onR aD) hb); replace a := bb a hb; replace HB := bs HB hb; (try clear hb)))
  (try simp only [Act.put, List.setIfInBounds_toArray, List.set_cons_zero, List.set_cons_succ])
  go_cut [71] (fun bz wc => ∃ (kq : Nat) (aG : Bool), bz = .bool aG ∧ Aside0 (laws_FnTwoTop.j0 kq y b m p aG q d = some r) ∧ Aside0 (kq ≤ k) ∧ Aside0 (Kd.R k33 33 wc w.heap.size (fun _ => True) (.slice z d.length u) d) ∧ Bk wc U (.cells #[.int .i64 q, (.slice z d.length u)] 31 (0, 0)) ∧ Aside0 (Below w.heap.size w wc))
  case first =>
   have H := aS.out; clear aS; by_cases B : (m != J) = true
   ·rw [if_pos B] at H; have L : (m != J) = true := B; (try (have ap : decide (m = J) = false := by simpa using B)); (try (have aq : (m == J) = false := by simpa using B)); (try (have b0 : ¬ (m = J) := by simpa using B)); clear B; (first | rw [L] | (simp only [i64_w, i32_w]; rw [L]) | skip); have H' := am H; clear H; go_wp2
    go_meet
    case rel => exact ⟨_, (true), rs_, H', ⟨by first | omega | exact Nat.le_refl _⟩, ⟨onR s⟩, ⟨bkn a⟩, ⟨bn HB⟩⟩
   ·rw [if_neg B] at H; have L : (m != J) = false := by simpa using B
    (try (have ap : decide (m = J) = true := by simpa using B)); (try (have aq : (m == J) = true := by simpa using B)); clear B; (first | rw [L] | (simp only [i64_w, i32_w]; rw [L]) | skip); by_cases D : (p != K) = true
    ·rw [if_pos D] at H; have ar : (p != K) = true := D; (try (have au : decide (p = K) = false := by simpa using D)); (try (have av : (p == K) = false := by simpa using D)); (try (have b1 : ¬ (p = K) := by simpa using D)); clear D; have H' := am H; clear H; go_wp2
     go_meet
     case rel => exact ⟨_, (true), rs_, H', ⟨by first | omega | exact Nat.le_refl _⟩, ⟨onR s⟩, ⟨bkn a⟩, ⟨bn HB⟩⟩
    ·rw [if_neg D] at H; have ar : (p != K) = false := by simpa using D
     (try (have au : decide (p = K) = true := by simpa using D)); (try (have av : (p == K) = true := by simpa using D)); clear D; have H' := am H; clear H; go_wp2
     go_meet
     case rel => exact ⟨_, ((a9 != ba)), rs_, H', ⟨by first | omega | exact Nat.le_refl _⟩, ⟨onR s⟩, ⟨bkn a⟩, ⟨bn HB⟩⟩
  case rest =>
   clear aS; (try clear c2 al an B L ap aq D ar au av aA aB aE aF); obtain ⟨kq, aG, rfl, HA, I, i, a, HB⟩ := hcut; cases kq with
   | zero => exact absurd HA.out (by simp [laws_FnTwoTop.j0])
   | succ kj7 =>
    have H := HA.out; clear HA; simp only [laws_FnTwoTop.j0] at H; by_cases aw : aG = true
    ·subst aw; rw [if_pos rfl] at H; exact absurd (Option.some.inj H) (by rw [hrt.out]; decide)
    ·obtain rfl := nt_ aw; rw [if_neg nf_] at H; obtain ⟨j, bA, H⟩ := bi_ H; have aT := am H; clear H; have aU := c2 a
     go_upto_region 11 with (first | ((with_reducible refine gate_callee (f := 77) rfl ?_); refine gl_ (some 74) Try.func77 #[.agg #[.int .i64 q, .slice z d.length u], .int .i64 y] ?_; (with_reducible refine (spec_WayReach.calls kj7 q _ _ d y j _ ?z_1 ?z_2 bA.out).mono ?_); (case z_1 => exact (Kd.R_reads' (onR i)).2.2); (case z_2 => exact (Kd.R_reads' i.out).2.1); rintro e w26 ⟨aV, rfl, E, hb⟩; refine ⟨_, rfl, ?_⟩; replace i := am (Kd.R_below (onR i) hb); have W := am (Kd.R_lower E (below_size (bn HB))); replace a := bb a hb; replace HB := bs HB hb; (try clear hb E)))
     (try simp only [Act.put, List.setIfInBounds_toArray, List.set_cons_zero, List.set_cons_succ])
     go_cut [92] (fun bB wc => ∃ (kq : Nat) (aH : Bool), bB = .bool aH ∧ Aside0 (laws_FnTwoTop.j1 kq y b m p j aH q d = some r) ∧ Aside0 (kq ≤ kj7) ∧ Aside0 (Kd.R Kd.bool 4 wc w.heap.size (fun _ => True) aV j) ∧ Aside0 (Kd.R k33 33 wc w.heap.size (fun _ => True) (.slice z d.length u) d) ∧ Bk wc U (.cells #[.int .i64 q, (.slice z d.length u)] 31 (0, 0)) ∧ Aside0 (Below w.heap.size w wc))
     case first =>
      have H := aT.out; clear aT; by_cases G : (j.length : Int) = 0
      ·rw [if_pos G] at H; have X : ((j.length : Int) == 0) = true := beq_iff_eq.mpr G; have aI : ((j.length : Int) != 0) = false := bne_eq_false_iff_eq.mpr G; clear G; (first | rw [X] | (simp only [i64_w, i32_w]; rw [X]) | skip); have H' := am H; clear H; obtain ⟨b2, b3, bC⟩ := Kd.R_slice W.out; subst bC; go_wp2
       go_meet
       case rel => exact ⟨_, (true), rs_, H', ⟨by have := I.out; first | omega | exact Nat.le_refl _⟩, ⟨onR W⟩, ⟨onR i⟩, ⟨bkn a⟩, ⟨bn HB⟩⟩
      ·rw [if_neg G] at H; have X : ((j.length : Int) == 0) = false := beq_eq_false_iff_ne.mpr G; have aI : ((j.length : Int) != 0) = true := bne_iff_ne.mpr G; have aW : ¬ (j = []) := fun h_ => G (by rw [h_]; rfl)
       (first | rw [X] | (simp only [i64_w, i32_w]; rw [X]) | skip); by_cases O : b < 0
       ·rw [if_pos O] at H; have aJ := decide_eq_true O; clear O; have H' := am H; clear H; obtain ⟨b4, b5, bD⟩ := Kd.R_slice W.out; subst bD; go_wp2
        go_meet
        case rel => exact ⟨_, (true), rs_, H', ⟨by have := I.out; first | omega | exact Nat.le_refl _⟩, ⟨onR W⟩, ⟨onR i⟩, ⟨bkn a⟩, ⟨bn HB⟩⟩
       ·rw [if_neg O] at H; have aJ := decide_eq_false O; clear O; by_cases P : b ≥ (j.length : Int)
        ·rw [if_pos P] at H; have aK := decide_eq_true P; clear P; have H' := am H; clear H; obtain ⟨b6, b7, bE⟩ := Kd.R_slice W.out; subst bE; go_wp2
         go_meet
         case rel => exact ⟨_, (true), rs_, H', ⟨by have := I.out; first | omega | exact Nat.le_refl _⟩, ⟨onR W⟩, ⟨onR i⟩, ⟨bkn a⟩, ⟨bn HB⟩⟩
        ·rw [if_neg P] at H; have aK := decide_eq_false P; clear P; have H' := am H; clear H; obtain ⟨b8, b9, bF⟩ := Kd.R_slice W.out; subst bF; go_wp2
         go_meet
         case rel => exact ⟨_, ((y == b)), rs_, H', ⟨by have := I.out; first | omega | exact Nat.le_refl _⟩, ⟨onR W⟩, ⟨onR i⟩, ⟨bkn a⟩, ⟨bn HB⟩⟩
     case rest =>
      clear aT; (try clear c2 al an B L ap aq D ar au av aw G X aI aW O aJ P aK aA aB aE aF aU); obtain ⟨kq, aH, rfl, HA, ag, t, i, a, HB⟩ := hcut; cases kq with
      | zero => exact absurd HA.out (by simp [laws_FnTwoTop.j1])
      | succ kj23 =>
       have H := HA.out; clear HA; simp only [laws_FnTwoTop.j1] at H; by_cases aL : aH = true
       ·subst aL; rw [if_pos rfl] at H; by_cases aM : m = true
        ·subst aM; rw [if_pos rfl] at H; exact absurd (Option.some.inj H) (by rw [hrt.out]; decide)
        ·obtain rfl := nt_ aM; rw [if_neg nf_] at H; obtain rfl := Option.some.inj H; go_wp2
         go_ret
         exact ⟨er_, bn HB⟩
       ·obtain rfl := nt_ aL; rw [if_neg nf_] at H; have aX := am H; clear H
        go_upto_region 13 with (fail)
        go_cut [17] (fun bG wc => ∃ (kq : Nat) (A : Bool), bG = .bool A ∧ Aside0 (laws_FnTwoTop.j2 kq b m p j A = some r) ∧ Aside0 (kq ≤ kj23) ∧ Aside0 (Kd.R Kd.bool 4 wc w.heap.size (fun _ => True) aV j) ∧ Aside0 (Kd.R k33 33 wc w.heap.size (fun _ => True) (.slice z d.length u) d) ∧ Bk wc U (.cells #[.int .i64 q, (.slice z d.length u)] 31 (0, 0)) ∧ Aside0 (Below w.heap.size w wc))
        case first =>
         have H := aX.out; clear aX; obtain ⟨bH, bd, H⟩ := bi_ H; by_cases aN : bH = true
         ·subst aN; rw [if_pos rfl] at H; obtain ⟨bf, bI, H⟩ := bi_ H; have H' := am H; clear H; have bg := c2 a
          go_wp2_with (first | ((with_reducible refine gate_callee (f := 78) rfl ?_); refine gl_ (some 102) Try.func78 #[.agg #[.int .i64 q, .slice z d.length u], .int .i64 y, .int .i64 b] ?_; (with_reducible refine (spec_NetHas.calls kj23 q _ _ d y b true _ ?z_1 ?z_2 bd.out).mono ?_); (case z_1 => exact (Kd.R_reads' (onR i)).2.2); (case z_2 => exact (Kd.R_reads' i.out).2.1); rintro e w41 ⟨rfl, hb⟩; refine ⟨_, rfl, ?_⟩; replace t := am (Kd.R_below (onR t) hb); replace i := am (Kd.R_below (onR i) hb); replace a := bb a hb; replace HB := bs HB hb; (try clear hb); have bh := c2 a) | (go_at_call 79; (with_reducible refine (impl_BridgeIs.calls kj23 q _ _ d y b bf _ ?z_1 ?z_2 bI.out).mono ?_); (case z_1 => exact (Kd.R_reads' (onR i)).2.2); (case z_2 => exact (Kd.R_reads' i.out).2.1); rintro e w43 ⟨rfl, hb⟩; replace t := am (Kd.R_below (onR t) hb); replace i := am (Kd.R_below (onR i) hb); replace a := bb a hb; replace HB := bs HB hb; (try clear hb)))
          go_meet
          case rel => exact ⟨_, (bf), rs_, H', ⟨by have := I.out; have := ag.out; first | omega | exact Nat.le_refl _⟩, ⟨onR t⟩, ⟨onR i⟩, ⟨bkn a⟩, ⟨bn HB⟩⟩
         ·obtain rfl := nt_ aN; rw [if_neg nf_] at H; have H' := am H; clear H; have bi := c2 a
          go_wp2_with (first | ((with_reducible refine gate_callee (f := 78) rfl ?_); refine gl_ (some 102) Try.func78 #[.agg #[.int .i64 q, .slice z d.length u], .int .i64 y, .int .i64 b] ?_; (with_reducible refine (spec_NetHas.calls kj23 q _ _ d y b false _ ?z_1 ?z_2 bd.out).mono ?_); (case z_1 => exact (Kd.R_reads' (onR i)).2.2); (case z_2 => exact (Kd.R_reads' i.out).2.1); rintro e w45 ⟨rfl, hb⟩; refine ⟨_, rfl, ?_⟩; replace t := am (Kd.R_below (onR t) hb); replace i := am (Kd.R_below (onR i) hb); replace a := bb a hb; replace HB := bs HB hb; (try clear hb)))
          go_meet
          case rel => exact ⟨_, (false), rs_, H', ⟨by have := I.out; have := ag.out; first | omega | exact Nat.le_refl _⟩, ⟨onR t⟩, ⟨onR i⟩, ⟨bkn a⟩, ⟨bn HB⟩⟩
        case rest =>
         clear aX; (try clear c2 al an B L ap aq D ar au av aw G X aI aW O aJ P aK aL aM aN aA aB aE aF aU bg bh bi); obtain ⟨kq, A, rfl, HA, aO, t, i, a, HB⟩ := hcut; cases kq with
         | zero => exact absurd HA.out (by simp [laws_FnTwoTop.j2])
         | succ kj35 =>
          have H := HA.out; clear HA; simp only [laws_FnTwoTop.j2] at H; have H' := am H; clear H; go_wp2
          go_loopg [18, 19] kj35 (fun kq bJ bK w' => ∃ (T : Int) (x : Int), bJ = .int .i64 T ∧ bK = .int .i64 x ∧ Aside0 (laws_FnTwoTop.l0 kq b m p j A T x = some r) ∧ Aside0 (kq ≤ kj35) ∧ Aside0 (Kd.R Kd.bool 4 w' w.heap.size (fun _ => True) aV j) ∧ Aside0 (Kd.R k33 33 w' w.heap.size (fun _ => True) (.slice z d.length u) d) ∧ Bk w' U (.cells #[.int .i64 q, (.slice z d.length u)] 31 (0, 0)) ∧ Aside0 (Below w.heap.size w w'))
          case atStart => exact ⟨(0), (0), rs_, rs_, H', ⟨Nat.le_refl _⟩, ⟨onR t⟩, ⟨onR i⟩, ⟨bkn a⟩, ⟨bn HB⟩⟩
          case round =>
           clear H'; (try clear c2 al an B L ap aq D ar au av aw G X aI aW O aJ P aK aL aM aN aA aB aE aF aU bg bh bi); obtain ⟨T, x, rfl, rfl, HA, aP, t, i, a, HB⟩ := hrel; cases gk with
           | zero => exact absurd HA.out (by simp [laws_FnTwoTop.l0])
           | succ k4 =>
            have H := HA.out; clear HA; simp only [laws_FnTwoTop.l0] at H; by_cases ah : x < 4
            ·rw [if_pos ah] at H; have bL := decide_eq_true ah; clear ah; obtain ⟨ca, H⟩ := id_ H; obtain ⟨cc, H⟩ := id_ H; obtain ⟨ax, aY⟩ : ∃ y_ : List Bool, y_ = (([m, p, A, !(rdOf false j b)] : List Bool)) := ⟨_, rfl⟩; replace H : (if 0 ≤ x then (if x < (ax.length : Int) then (if rdOf false ax x = true then (laws_FnTwoTop.l0 k4 b m p j A (wrap64 (T + 1)) (wrap64 (x + 1))) else (laws_FnTwoTop.l0 k4 b m p j A T (wrap64 (x + 1)))) else (none)) else (none)) = some r := nh_ aY H; have aQ := am aY; clear aY; obtain ⟨cd, H⟩ := id_ H; obtain ⟨ce, H⟩ := id_ H; obtain ⟨bj, aZ⟩ : ∃ b_ : Bool, b_ = (rdOf false ax x) := ⟨_, rfl⟩; replace H : (if bj = true then (laws_FnTwoTop.l0 k4 b m p j A (wrap64 (T + 1)) (wrap64 (x + 1))) else (laws_FnTwoTop.l0 k4 b m p j A T (wrap64 (x + 1)))) = some r := by rw [← aZ] at H; exact H
             have aR := am aZ; clear aZ; by_cases bk : bj = true
             ·subst bk; rw [if_pos rfl] at H; have H' := am H; clear H; obtain ⟨cf, cg, bM⟩ := Kd.R_slice t.out; subst bM; have Z : 0 ≤ (b : Int) := oa; have aa : b < (j.length : Int) := oa; obtain ⟨bN, a0, a1⟩ := Kd.at_bool (Kd.R_reads' t.out).2.2 b Z aa; (try rw [← aR.out] at a1); cases a0; obtain ⟨Z, aa⟩ := e2_ Z aa
              go_wp2_with (first | ((with_reducible refine gate_dst (N := 121) rfl ?_); refine Kd.R_lit Kd.bool _ 4 ?hg (N := 121) ?hd (xs := ([m, p, A, !(rdOf false j b)] : List Bool)) (inner := [.bool m, .bool p, .bool A, .bool (!(rdOf false j b))]) (ok := fun _ => True) (okp := fun _ => True) ?hr ?hp (fun _ hk => hk) trivial (Below.refl _ _) (Nat.le_refl _) (by simp) ?_; (case hd => rfl); (case hg => rfl); (case hr => first | (go_simp; done) | (go_simp; rfl)); (case hp => exact (Reps.one (show Kd.M Kd.bool _ _ _ m [.bool m] from rfl) (Reps.one (show Kd.M Kd.bool _ _ _ p [.bool p] from rfl) (Reps.one (show Kd.M Kd.bool _ _ _ A [.bool A] from rfl) (Reps.one (show Kd.M Kd.bool _ _ _ (!(rdOf false j b)) [.bool (!(rdOf false j b))] from rfl) (Reps.none _ _)))))); intro bO w54 ai hb a2 a3; clear a2 a3; (first | rw [← aQ.out] at ai | (simp only [Int.reduceToNat] at ai; rw [← aQ.out] at ai)); replace i := am (Kd.R_below (onR i) hb); have ay := am (Kd.R_lower (Kd.R_new' ai (Kd.R_lt (onR t))) (below_size (bn HB))); replace t := am (Kd.R_elder' (onR t) (Kd.R_base ai) hb); replace a := bb a hb; replace HB := bs HB hb; clear hb ai; obtain ⟨ch, ci, bP⟩ := Kd.R_slice ay.out; subst bP; have ab : 0 ≤ (x : Int) := oa; have ad : x < (ax.length : Int) := oa; obtain ⟨bQ, a4, a5⟩ := Kd.at_bool (Kd.R_reads' ay.out).2.2 x ab ad; (try rw [← aR.out] at a5); cases a4; obtain ⟨ab, ad⟩ := e2_ ab ad))
              go_roundg k4
              case measure => have := I.out; have := ag.out; have := aO.out; have := aP.out; omega
              case rel => exact ⟨(wrap64 (T + 1)), (wrap64 (x + 1)), rs_, rs_, H', ⟨by have := I.out; have := ag.out; have := aO.out; have := aP.out; omega⟩, ⟨Kd.R_mono (onR t) (fun _ hk => trivial)⟩, ⟨onR i⟩, ⟨bkn a⟩, ⟨bn HB⟩⟩
             ·obtain rfl := nt_ bk; rw [if_neg nf_] at H; have H' := am H; clear H; obtain ⟨cj, ck, bR⟩ := Kd.R_slice t.out; subst bR; have Z : 0 ≤ (b : Int) := oa; have aa : b < (j.length : Int) := oa; obtain ⟨bN, a0, a1⟩ := Kd.at_bool (Kd.R_reads' t.out).2.2 b Z aa; (try rw [← aR.out] at a1); cases a0; obtain ⟨Z, aa⟩ := e2_ Z aa
              go_wp2_with (first | ((with_reducible refine gate_dst (N := 121) rfl ?_); refine Kd.R_lit Kd.bool _ 4 ?hg (N := 121) ?hd (xs := ([m, p, A, !(rdOf false j b)] : List Bool)) (inner := [.bool m, .bool p, .bool A, .bool (!(rdOf false j b))]) (ok := fun _ => True) (okp := fun _ => True) ?hr ?hp (fun _ hk => hk) trivial (Below.refl _ _) (Nat.le_refl _) (by simp) ?_; (case hd => rfl); (case hg => rfl); (case hr => first | (go_simp; done) | (go_simp; rfl)); (case hp => exact (Reps.one (show Kd.M Kd.bool _ _ _ m [.bool m] from rfl) (Reps.one (show Kd.M Kd.bool _ _ _ p [.bool p] from rfl) (Reps.one (show Kd.M Kd.bool _ _ _ A [.bool A] from rfl) (Reps.one (show Kd.M Kd.bool _ _ _ (!(rdOf false j b)) [.bool (!(rdOf false j b))] from rfl) (Reps.none _ _)))))); intro bO w58 aj hb a2 a3; clear a2 a3; (first | rw [← aQ.out] at aj | (simp only [Int.reduceToNat] at aj; rw [← aQ.out] at aj)); replace i := am (Kd.R_below (onR i) hb); have ay := am (Kd.R_lower (Kd.R_new' aj (Kd.R_lt (onR t))) (below_size (bn HB))); replace t := am (Kd.R_elder' (onR t) (Kd.R_base aj) hb); replace a := bb a hb; replace HB := bs HB hb; clear hb aj; obtain ⟨cl, cm, bS⟩ := Kd.R_slice ay.out; subst bS; have ab : 0 ≤ (x : Int) := oa; have ad : x < (ax.length : Int) := oa; obtain ⟨bQ, a4, a5⟩ := Kd.at_bool (Kd.R_reads' ay.out).2.2 x ab ad; (try rw [← aR.out] at a5); cases a4; obtain ⟨ab, ad⟩ := e2_ ab ad))
              go_roundg k4
              case measure => have := I.out; have := ag.out; have := aO.out; have := aP.out; omega
              case rel => exact ⟨(T), (wrap64 (x + 1)), rs_, rs_, H', ⟨by have := I.out; have := ag.out; have := aO.out; have := aP.out; omega⟩, ⟨Kd.R_mono (onR t) (fun _ hk => trivial)⟩, ⟨onR i⟩, ⟨bkn a⟩, ⟨bn HB⟩⟩
            ·rw [if_neg ah] at H; have bL := decide_eq_false ah; clear ah; obtain rfl := Option.some.inj H; go_wp2
             go_ret
             exact ⟨er_, bn HB⟩

/-- what is to be proved of laws_FnTwoTop, without Go -/
def laws_FnTwoTop.Pure : Prop := ∀ (l0 : List Int), (l0.length ≤ maxLen ∧ ∀ l0_ ∈ l0, ((Lit.int .u8 l0_).wf = true)) → ∃ k, laws_FnTwoTop.f k l0 = some true

end Go.Proofs.Ythmddmobfkfgeaa.F
