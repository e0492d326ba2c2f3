-- By oprint.py.
import Derived.Test.YthmddmobfkfgeaaF0
import Derived.Test.YthmddmobfkfgeaaF11
import Derived.Test.YthmddmobfkfgeaaF21
import Derived.Test.YthmddmobfkfgeaaF42
import Derived.Test.YthmddmobfkfgeaaF5
import Derived.Test.YthmddmobfkfgeaaF6
namespace Go.Proofs.Ythmddmobfkfgeaa.F
open Go.RowKit Go.Proofs.YthmddmobfkfgeaaW.PrintWords Go.Proofs.YthmddmobfkfgeaaW.PrintLast Go.Proofs.YthmddmobfkfgeaaW.PrintMore
attribute [local go_sem] max2_int min2_int max_two min_two max_three min_three max_four min_four
set_option linter.unusedVariables false
set_option linter.unusedSimpArgs false

/-! ### spec_TwoCut: function 76 -/
mutual
def spec_TwoCut.j0 : Nat → Int → Int → Bool → Int → List (S33) → Option (Int × Bool)
 | 0, _, _, _, _, _ => none
 | k + 1, x1, x2, x38, x1599000, x1599001 => if x38 = true then (some (0, false)) else (spec_TwoCut.l0 k x1 x2 0 x1599000 x1599001)
def spec_TwoCut.l0 : Nat → Int → Int → Int → Int → List (S33) → Option (Int × Bool)
 | 0, _, _, _, _, _ => none
 | k + 1, x1, x2, x8, x1599000, x1599001 => if x8 < x1599000 then (if x8 = x1 then (spec_TwoCut.l0 k x1 x2 (wrap64 (x8 + 1)) x1599000 x1599001) else (if x8 = x2 then (spec_TwoCut.l0 k x1 x2 (wrap64 (x8 + 1)) x1599000 x1599001) else ((spec_NetWithout.f k x1599000 x1599001 x8).bind fun bt1606 => ((spec_WayReach.f k bt1606.1 bt1606.2 x1).bind fun t1610 => (if 0 ≤ x2 then (if x2 < (t1610.length : Int) then (if rdOf false t1610 x2 = true then (spec_TwoCut.l0 k x1 x2 (wrap64 (x8 + 1)) x1599000 x1599001) else (some (x8, true))) else (none)) else (none)))))) else (some (0, false))
end
def spec_TwoCut.f (k : Nat) (a0_0 : Int) (l0_1 : List (S33)) (a1 : Int) (a2 : Int) : Option (Int × Bool) := (spec_l1Knot.f k a0_0 l0_1 a1).bind fun t1599 => (if t1599 = true then ((spec_l1Knot.f k a0_0 l0_1 a2).bind fun t1600 => (if t1600 = true then (if a1 = a2 then (spec_TwoCut.j0 k a1 a2 true a0_0 l0_1) else ((spec_NetHas.f k a0_0 l0_1 a1 a2).bind fun t1601 => (if t1601 = true then (spec_TwoCut.j0 k a1 a2 true a0_0 l0_1) else ((spec_WayReach.f k a0_0 l0_1 a1).bind fun t1602 => (if 0 ≤ a2 then (if a2 < (t1602.length : Int) then (spec_TwoCut.j0 k a1 a2 (!(rdOf false t1602 a2)) a0_0 l0_1) else (none)) else (none)))))) else (spec_TwoCut.j0 k a1 a2 true a0_0 l0_1))) else (spec_TwoCut.j0 k a1 a2 true a0_0 l0_1))
theorem spec_TwoCut.mono_l : ∀ k, (∀ a b c d e, LeO (spec_TwoCut.j0 k a b c d e) (spec_TwoCut.j0 (k + 1) a b c d e)) ∧ (∀ a b c d e, LeO (spec_TwoCut.l0 k a b c d e) (spec_TwoCut.l0 (k + 1) a b c d e))
 | 0 => ⟨fun _ _ _ _ _ r h => by simp [spec_TwoCut.j0] at h, fun _ _ _ _ _ r h => by simp [spec_TwoCut.l0] at h⟩
 | k + 1 => by
  obtain ⟨ih0, ih1⟩ := spec_TwoCut.mono_l k; refine ⟨?_, ?_⟩
  ·intro a b c d e; unfold spec_TwoCut.j0; have f := @spec_NetHas.mono; have g := @spec_NetWithout.mono; have i := @spec_WayReach.mono; have j := @spec_l1Knot.mono; exact mo_
  ·intro a b c d e; unfold spec_TwoCut.l0; have f := @spec_NetHas.mono; have g := @spec_NetWithout.mono; have i := @spec_WayReach.mono; have j := @spec_l1Knot.mono; exact mo_
theorem spec_TwoCut.mono : ∀ a b c d k, LeO (spec_TwoCut.f k a b c d) (spec_TwoCut.f (k + 1) a b c d) := by
 intro a b c d k; obtain ⟨ih0, ih1⟩ := spec_TwoCut.mono_l k; unfold spec_TwoCut.f; have m0_ := @spec_NetHas.mono; have m1_ := @spec_NetWithout.mono; have m2_ := @spec_WayReach.mono; have m3_ := @spec_l1Knot.mono; exact mo_
set_option maxHeartbeats 8000000 in
set_option maxRecDepth 100000 in
theorem spec_TwoCut.calls (k : Nat) (g : Int) (o : Option Addr) (p : Nat) (c : List (S33)) (d : Int) (b : Int) (z : Int) (A : Bool) (w : World) (aj : Kd.C k33 w o c.length c) (ak : c.length ≤ p) (h : spec_TwoCut.f k g c d b = some (z, A)) :
  Calls Try.prog 76 #[.agg #[.int .i64 g, .slice o c.length p], .int .i64 d, .int .i64 b] w fun e w' => e = .returned (.tuple #[.int .i64 z, .bool A]) ∧ Below w.heap.size w w' := by
 have a2 := Try.underlying31; have j := am aj; have l := am ak; clear aj ak; have HB := am (Below.refl w.heap.size w)
 have H : ((spec_l1Knot.f k g c d).bind fun Z => (if Z = true then ((spec_l1Knot.f k g c b).bind fun aa => (if aa = true then (if d = b then (spec_TwoCut.j0 k d b true g c) else ((spec_NetHas.f k g c d b).bind fun ab => (if ab = true then (spec_TwoCut.j0 k d b true g c) else ((spec_WayReach.f k g c d).bind fun B => (if 0 ≤ b then (if b < (B.length : Int) then (spec_TwoCut.j0 k d b (!(rdOf false B b)) g c) else (none)) else (none)))))) else (spec_TwoCut.j0 k d b true g c))) else (spec_TwoCut.j0 k d b true g c))) = some (z, A) := h
 clear h; have ad := am H; clear H; go_enter Try.func76, Try.ntmps76
 go_upto_region 1 with (first | ((with_reducible refine gate_dst (N := 3) rfl ?_); refine bx_ 3 #[.int .i64 g, .slice o c.length p] 31 HB ?_; clear HB; intro al hg w5 hb a a3 HB; clear hb hg))
 (try simp only [Act.put, List.setIfInBounds_toArray, List.set_cons_zero, List.set_cons_succ])
 go_cut [38] (fun aM wc => ∃ (kq : Nat) (O : Bool), aM = .bool O ∧ Aside0 (spec_TwoCut.j0 kq d b O g c = some (z, A)) ∧ Aside0 (kq ≤ k) ∧ Bk wc al (.cells #[.int .i64 g, (.slice o c.length p)] 31 (0, 0)) ∧ Aside0 (Below w.heap.size w wc))
 case first =>
  have H := ad.out; clear ad; obtain ⟨Z, I, H⟩ := bi_ H; by_cases P : Z = true
  ·subst P; rw [if_pos rfl] at H; obtain ⟨aa, T, H⟩ := bi_ H; by_cases U : aa = true
   ·subst U; rw [if_pos rfl] at H; by_cases q : d = b
    ·rw [if_pos q] at H; have s : (d == b) = true := beq_iff_eq.mpr q; have ae : (d != b) = false := bne_eq_false_iff_eq.mpr q; clear q; (first | rw [s] | (simp only [i64_w, i32_w]; rw [s]) | skip); have H' := am H; clear H; have an := c2 a
     go_wp2_with (first | ((with_reducible refine gate_callee (f := 116) rfl ?_); refine gl_ (some 11) Try.func116 #[.agg #[.int .i64 g, .slice o c.length p], .int .i64 d] ?_; (with_reducible refine (spec_l1Knot.calls k g _ _ c d true _ ?z_1 ?z_2 I.out).mono ?_); (case z_1 => exact cb j HB); (case z_2 => exact l.out); rintro e w12 ⟨rfl, hb⟩; refine ⟨_, rfl, ?_⟩; replace a := bb a hb; replace HB := bs HB hb; (try clear hb); have ap := c2 a) | (go_at_call 116; (with_reducible refine (spec_l1Knot.calls k g _ _ c b true _ ?z_1 ?z_2 T.out).mono ?_); (case z_1 => exact cb j HB); (case z_2 => exact l.out); rintro e w14 ⟨rfl, hb⟩; replace a := bb a hb; replace HB := bs HB hb; (try clear hb)))
     go_meet
     case rel => exact ⟨_, (true), rs_, H', ⟨by first | omega | exact Nat.le_refl _⟩, ⟨bkn a⟩, ⟨bn HB⟩⟩
    ·rw [if_neg q] at H; have s : (d == b) = false := beq_eq_false_iff_ne.mpr q; have ae : (d != b) = true := bne_iff_ne.mpr q; (first | rw [s] | (simp only [i64_w, i32_w]; rw [s]) | skip); obtain ⟨ab, aq, H⟩ := bi_ H; by_cases W : ab = true
     ·subst W; rw [if_pos rfl] at H; have H' := am H; clear H; have ar := c2 a
      go_wp2_with (first | ((with_reducible refine gate_callee (f := 116) rfl ?_); refine gl_ (some 11) Try.func116 #[.agg #[.int .i64 g, .slice o c.length p], .int .i64 d] ?_; (with_reducible refine (spec_l1Knot.calls k g _ _ c d true _ ?z_1 ?z_2 I.out).mono ?_); (case z_1 => exact cb j HB); (case z_2 => exact l.out); rintro e w18 ⟨rfl, hb⟩; refine ⟨_, rfl, ?_⟩; replace a := bb a hb; replace HB := bs HB hb; (try clear hb); have au := c2 a) | (go_at_call 116; (with_reducible refine (spec_l1Knot.calls k g _ _ c b true _ ?z_1 ?z_2 T.out).mono ?_); (case z_1 => exact cb j HB); (case z_2 => exact l.out); rintro e w20 ⟨rfl, hb⟩; replace a := bb a hb; replace HB := bs HB hb; (try clear hb); have av := c2 a) | (go_at_call 78; (with_reducible refine (spec_NetHas.calls k g _ _ c d b true _ ?z_1 ?z_2 aq.out).mono ?_); (case z_1 => exact cb j HB); (case z_2 => exact l.out); rintro e w22 ⟨rfl, hb⟩; replace a := bb a hb; replace HB := bs HB hb; (try clear hb)))
      go_meet
      case rel => exact ⟨_, (true), rs_, H', ⟨by first | omega | exact Nat.le_refl _⟩, ⟨bkn a⟩, ⟨bn HB⟩⟩
     ·obtain rfl := nt_ W; rw [if_neg nf_] at H; obtain ⟨B, aN, H⟩ := bi_ H; obtain ⟨aw, H⟩ := id_ H; obtain ⟨ax, H⟩ := id_ H; have H' := am H; clear H; have ay := c2 a
      go_wp2_with (first | ((with_reducible refine gate_callee (f := 116) rfl ?_); refine gl_ (some 11) Try.func116 #[.agg #[.int .i64 g, .slice o c.length p], .int .i64 d] ?_; (with_reducible refine (spec_l1Knot.calls k g _ _ c d true _ ?z_1 ?z_2 I.out).mono ?_); (case z_1 => exact cb j HB); (case z_2 => exact l.out); rintro e w27 ⟨rfl, hb⟩; refine ⟨_, rfl, ?_⟩; replace a := bb a hb; replace HB := bs HB hb; (try clear hb); have az := c2 a) | (go_at_call 116; (with_reducible refine (spec_l1Knot.calls k g _ _ c b true _ ?z_1 ?z_2 T.out).mono ?_); (case z_1 => exact cb j HB); (case z_2 => exact l.out); rintro e w29 ⟨rfl, hb⟩; replace a := bb a hb; replace HB := bs HB hb; (try clear hb); have aA := c2 a) | (go_at_call 78; (with_reducible refine (spec_NetHas.calls k g _ _ c d b false _ ?z_1 ?z_2 aq.out).mono ?_); (case z_1 => exact cb j HB); (case z_2 => exact l.out); rintro e w31 ⟨rfl, hb⟩; replace a := bb a hb; replace HB := bs HB hb; (try clear hb); have aB := c2 a) | (go_at_call 77; (with_reducible refine (spec_WayReach.calls k g _ _ c d B _ ?z_1 ?z_2 aN.out).mono ?_); (case z_1 => exact cb j HB); (case z_2 => exact l.out); rintro e w33 ⟨a4, rfl, m, hb⟩; have aC := am (Kd.R_lower m (below_size (bn HB))); replace a := bb a hb; replace HB := bs HB hb; (try clear hb m); obtain ⟨a5, a6, aO⟩ := Kd.R_slice aC.out; subst aO; have J : 0 ≤ (b : Int) := oa; have K : b < (B.length : Int) := oa; obtain ⟨a7, aP, aD⟩ := Kd.at_bool (Kd.R_reads' aC.out).2.2 b J K; cases aP; replace J := eq_true J; replace K := eq_true K))
      go_meet
      case rel => exact ⟨_, (!(rdOf false B b)), rs_, H', ⟨by first | omega | exact Nat.le_refl _⟩, ⟨bkn a⟩, ⟨bn HB⟩⟩
   ·obtain rfl := nt_ U; rw [if_neg nf_] at H; have H' := am H; clear H; have aE := c2 a
    go_wp2_with (first | ((with_reducible refine gate_callee (f := 116) rfl ?_); refine gl_ (some 11) Try.func116 #[.agg #[.int .i64 g, .slice o c.length p], .int .i64 d] ?_; (with_reducible refine (spec_l1Knot.calls k g _ _ c d true _ ?z_1 ?z_2 I.out).mono ?_); (case z_1 => exact cb j HB); (case z_2 => exact l.out); rintro e w36 ⟨rfl, hb⟩; refine ⟨_, rfl, ?_⟩; replace a := bb a hb; replace HB := bs HB hb; (try clear hb); have aF := c2 a) | (go_at_call 116; (with_reducible refine (spec_l1Knot.calls k g _ _ c b false _ ?z_1 ?z_2 T.out).mono ?_); (case z_1 => exact cb j HB); (case z_2 => exact l.out); rintro e w38 ⟨rfl, hb⟩; replace a := bb a hb; replace HB := bs HB hb; (try clear hb)))
    go_meet
    case rel => exact ⟨_, (true), rs_, H', ⟨by first | omega | exact Nat.le_refl _⟩, ⟨bkn a⟩, ⟨bn HB⟩⟩
  ·obtain rfl := nt_ P; rw [if_neg nf_] at H; have H' := am H; clear H; have aG := c2 a
   go_wp2_with (first | ((with_reducible refine gate_callee (f := 116) rfl ?_); refine gl_ (some 11) Try.func116 #[.agg #[.int .i64 g, .slice o c.length p], .int .i64 d] ?_; (with_reducible refine (spec_l1Knot.calls k g _ _ c d false _ ?z_1 ?z_2 I.out).mono ?_); (case z_1 => exact cb j HB); (case z_2 => exact l.out); rintro e w40 ⟨rfl, hb⟩; refine ⟨_, rfl, ?_⟩; replace a := bb a hb; replace HB := bs HB hb; (try clear hb)))
   go_meet
   case rel => exact ⟨_, (true), rs_, H', ⟨by first | omega | exact Nat.le_refl _⟩, ⟨bkn a⟩, ⟨bn HB⟩⟩
 case rest =>
  clear ad; (try clear c2 P U q s ae W aw ax an ap ar au av ay az aA aB aE aF aG aD J K); obtain ⟨kq, O, rfl, HA, D, a, HB⟩ := hcut; cases kq with
  | zero => exact absurd HA.out (by simp [spec_TwoCut.j0])
  | succ kj3 =>
   have H := HA.out; clear HA; simp only [spec_TwoCut.j0] at H; by_cases af : O = true
   ·subst af; rw [if_pos rfl] at H; simp only [Option.some.injEq, Prod.mk.injEq] at H; obtain ⟨rfl, rfl⟩ := H; go_wp2
    go_ret2
    exact ⟨er_, bn HB⟩
   ·obtain rfl := nt_ af; rw [if_neg nf_] at H; have H' := am H; clear H; go_wp2
    go_loopg [8] kj3 (fun kq v8 w' => ∃ (i : Int), v8 = .int .i64 i ∧ Aside0 (spec_TwoCut.l0 kq d b i g c = some (z, A)) ∧ Aside0 (kq ≤ kj3) ∧ Bk w' al (.cells #[.int .i64 g, (.slice o c.length p)] 31 (0, 0)) ∧ Aside0 (Below w.heap.size w w'))
    case atStart => exact ⟨(0), rs_, H', ⟨Nat.le_refl _⟩, ⟨bkn a⟩, ⟨bn HB⟩⟩
    case round =>
     clear H'; (try clear c2 P U q s ae W aw ax af an ap ar au av ay az aA aB aE aF aG aD J K); obtain ⟨i, rfl, HA, E, a, HB⟩ := hrel; cases gk with
     | zero => exact absurd HA.out (by simp [spec_TwoCut.l0])
     | succ k2 =>
      have H := HA.out; clear HA; simp only [spec_TwoCut.l0] at H; by_cases G : i < g
      ·rw [if_pos G] at H; have aQ := decide_eq_true G; clear G; by_cases t : i = d
       ·rw [if_pos t] at H; have aR : (i == d) = true := beq_iff_eq.mpr t; have aS : (i != d) = false := bne_eq_false_iff_eq.mpr t; clear t; have H' := am H; clear H; have a8 := c2 a; go_wp2
        go_roundg k2
        case measure => have := D.out; have := E.out; omega
        case rel => exact ⟨(wrap64 (i + 1)), rs_, H', ⟨by have := D.out; have := E.out; omega⟩, ⟨bkn a⟩, ⟨bn HB⟩⟩
       ·rw [if_neg t] at H; have aR : (i == d) = false := beq_eq_false_iff_ne.mpr t; have aS : (i != d) = true := bne_iff_ne.mpr t; by_cases u : i = b
        ·rw [if_pos u] at H; have aT : (i == b) = true := beq_iff_eq.mpr u; have aU : (i != b) = false := bne_eq_false_iff_eq.mpr u; clear u; have H' := am H; clear H; have a9 := c2 a; go_wp2
         go_roundg k2
         case measure => have := D.out; have := E.out; omega
         case rel => exact ⟨(wrap64 (i + 1)), rs_, H', ⟨by have := D.out; have := E.out; omega⟩, ⟨bkn a⟩, ⟨bn HB⟩⟩
        ·rw [if_neg u] at H; have aT : (i == b) = false := beq_eq_false_iff_ne.mpr u; have aU : (i != b) = true := bne_iff_ne.mpr u; obtain ⟨⟨X, Y⟩, aH, H⟩ := bi_ H; (try dsimp only at H); obtain ⟨L, aI, H⟩ := bi_ H; obtain ⟨ba, H⟩ := id_ H; obtain ⟨bd, H⟩ := id_ H; obtain ⟨aJ, ag⟩ : ∃ b_ : Bool, b_ = (rdOf false L b) := ⟨_, rfl⟩; replace H : (if aJ = true then (spec_TwoCut.l0 k2 d b (wrap64 (i + 1)) g c) else (some (i, true))) = some (z, A) := by rw [← ag] at H; exact H
         have aK := am ag; clear ag; by_cases aL : aJ = true
         ·subst aL; rw [if_pos rfl] at H; have H' := am H; clear H; have be := c2 a
          go_wp2_with (first | (go_at_call 122; (with_reducible refine (spec_NetWithout.calls k2 g _ _ c i X Y _ ?z_1 ?z_2 aH.out).mono ?_); (case z_1 => exact cb j HB); (case z_2 => exact l.out); rintro e w54 ⟨aV, rfl, m, hb⟩; have n := am (Kd.R_lower m (below_size (bn HB))); replace a := bb a hb; replace HB := bs HB hb; (try clear hb m); obtain ⟨bf, bg, aW⟩ := Kd.R_slice n.out; subst aW) | (go_at_call 77; (with_reducible refine (spec_WayReach.calls k2 X _ _ Y d L _ ?z_1 ?z_2 aI.out).mono ?_); (case z_1 => exact (Kd.R_reads' (onR n)).2.2); (case z_2 => exact (Kd.R_reads' n.out).2.1); rintro e w56 ⟨aX, rfl, m, hb⟩; replace n := am (Kd.R_below (onR n) hb); have M := am (Kd.R_lower m (below_size (bn HB))); replace a := bb a hb; replace HB := bs HB hb; (try clear hb m); obtain ⟨bh, bi, aY⟩ := Kd.R_slice M.out; subst aY; have x : 0 ≤ (b : Int) := oa; have y : b < (L.length : Int) := oa; obtain ⟨aZ, ah, ai⟩ := Kd.at_bool (Kd.R_reads' M.out).2.2 b x y; (try rw [← aK.out] at ai); cases ah; replace x := eq_true x; replace y := eq_true y))
          go_roundg k2
          case measure => have := D.out; have := E.out; omega
          case rel => exact ⟨(wrap64 (i + 1)), rs_, H', ⟨by have := D.out; have := E.out; omega⟩, ⟨bkn a⟩, ⟨bn HB⟩⟩
         ·obtain rfl := nt_ aL; rw [if_neg nf_] at H; simp only [Option.some.injEq, Prod.mk.injEq] at H; obtain ⟨rfl, rfl⟩ := H; have bj := c2 a
          go_wp2_with (first | (go_at_call 122; (with_reducible refine (spec_NetWithout.calls k2 g _ _ c i X Y _ ?z_1 ?z_2 aH.out).mono ?_); (case z_1 => exact cb j HB); (case z_2 => exact l.out); rintro e w59 ⟨aV, rfl, m, hb⟩; have n := am (Kd.R_lower m (below_size (bn HB))); replace a := bb a hb; replace HB := bs HB hb; (try clear hb m); obtain ⟨bk, bl, a0⟩ := Kd.R_slice n.out; subst a0) | (go_at_call 77; (with_reducible refine (spec_WayReach.calls k2 X _ _ Y d L _ ?z_1 ?z_2 aI.out).mono ?_); (case z_1 => exact (Kd.R_reads' (onR n)).2.2); (case z_2 => exact (Kd.R_reads' n.out).2.1); rintro e w61 ⟨aX, rfl, m, hb⟩; replace n := am (Kd.R_below (onR n) hb); have M := am (Kd.R_lower m (below_size (bn HB))); replace a := bb a hb; replace HB := bs HB hb; (try clear hb m); obtain ⟨bo, bp, a1⟩ := Kd.R_slice M.out; subst a1; have x : 0 ≤ (b : Int) := oa; have y : b < (L.length : Int) := oa; obtain ⟨aZ, ah, ai⟩ := Kd.at_bool (Kd.R_reads' M.out).2.2 b x y; (try rw [← aK.out] at ai); cases ah; replace x := eq_true x; replace y := eq_true y))
          go_ret2
          exact ⟨er_, bn HB⟩
      ·rw [if_neg G] at H; have aQ := decide_eq_false G; clear G; simp only [Option.some.injEq, Prod.mk.injEq] at H; obtain ⟨rfl, rfl⟩ := H; have br := c2 a; go_wp2
       go_ret2
       exact ⟨er_, bn HB⟩

/-! ### impl_NetHas: function 125 -/
def impl_NetHas.f (k : Nat) (a0_0 : Int) (l0_1 : List (S33)) (a1 : Int) (a2 : Int) : Option (Bool) := (impl_NetOk.f k a0_0 l0_1).bind fun t1615 => (if t1615 = true then ((impl_Net_has.f k a0_0 l0_1 a1 a2).bind fun t1616 => (some t1616)) else (some false))
theorem impl_NetHas.mono : ∀ a b c d k, LeO (impl_NetHas.f k a b c d) (impl_NetHas.f (k + 1) a b c d) := by
 intro a b c d k; unfold impl_NetHas.f; have m0_ := @impl_NetOk.mono; have m1_ := @impl_Net_has.mono; exact mo_
set_option maxHeartbeats 8000000 in
set_option maxRecDepth 100000 in
theorem impl_NetHas.calls (k : Nat) (b : Int) (d : Option Addr) (g : Nat) (a : List (S33)) (i : Int) (j : Int) (r : Bool) (w : World) (p : Kd.C k33 w d a.length a) (q : a.length ≤ g) (h : impl_NetHas.f k b a i j = some r) :
  Calls Try.prog 125 #[.agg #[.int .i64 b, .slice d a.length g], .int .i64 i, .int .i64 j] w fun e w' => e = .returned (.bool r) ∧ Below w.heap.size w w' := by
 have z := Try.underlying31; have l := am p; have m := am q; clear p q; have HB := am (Below.refl w.heap.size w)
 have H : ((impl_NetOk.f k b a).bind fun n => (if n = true then ((impl_Net_has.f k b a i j).bind fun o => (some o)) else (some false))) = some r := h
 clear h; obtain ⟨n, s, H⟩ := bi_ H; by_cases t : n = true
 ·subst t; rw [if_pos rfl] at H; obtain ⟨o, u, H⟩ := bi_ H; obtain rfl := Option.some.inj H; go_enter Try.func125, Try.ntmps125
  go_wp2_with (first | ((with_reducible refine gate_dst (N := 3) rfl ?_); refine bx_ 3 #[.int .i64 b, .slice d a.length g] 31 HB ?_; clear HB; intro x hg w7 hb c y HB; clear hb hg; have A := c2 c) | ((with_reducible refine gate_callee (f := 85) rfl ?_); refine gl_ (some 8) Try.func85 #[.agg #[.int .i64 b, .slice d a.length g]] ?_; (with_reducible refine (impl_NetOk.calls k b _ _ a true _ ?z_1 ?z_2 s.out).mono ?_); (case z_1 => exact cb l HB); (case z_2 => exact m.out); rintro e w9 ⟨rfl, hb⟩; refine ⟨_, rfl, ?_⟩; replace c := bb c hb; replace HB := bs HB hb; (try clear hb); have B := c2 c) | (go_at_call 94; (with_reducible refine (impl_Net_has.calls k b _ _ a i j o _ ?z_1 ?z_2 u.out).mono ?_); (case z_1 => exact cb l HB); (case z_2 => exact m.out); rintro e w11 ⟨rfl, hb⟩; replace c := bb c hb; replace HB := bs HB hb; (try clear hb)))
  go_ret
  exact ⟨er_, bn HB⟩
 ·obtain rfl := nt_ t; rw [if_neg nf_] at H; obtain rfl := Option.some.inj H; go_enter Try.func125, Try.ntmps125
  go_wp2_with (first | ((with_reducible refine gate_dst (N := 3) rfl ?_); refine bx_ 3 #[.int .i64 b, .slice d a.length g] 31 HB ?_; clear HB; intro x hg w12 hb c y HB; clear hb hg; have D := c2 c) | ((with_reducible refine gate_callee (f := 85) rfl ?_); refine gl_ (some 8) Try.func85 #[.agg #[.int .i64 b, .slice d a.length g]] ?_; (with_reducible refine (impl_NetOk.calls k b _ _ a false _ ?z_1 ?z_2 s.out).mono ?_); (case z_1 => exact cb l HB); (case z_2 => exact m.out); rintro e w14 ⟨rfl, hb⟩; refine ⟨_, rfl, ?_⟩; replace c := bb c hb; replace HB := bs HB hb; (try clear hb)))
  go_ret
  exact ⟨er_, bn HB⟩

/-! ### impl_BridgeIs: function 79 -/
def impl_BridgeIs.f (k : Nat) (a0_0 : Int) (l0_1 : List (S33)) (a1 : Int) (a2 : Int) : Option (Bool) := (impl_NetHas.f k a0_0 l0_1 a1 a2).bind fun t1618 => (if t1618 = true then ((impl_Net_bridges.f k a0_0 l0_1).bind fun t1619 => ((impl_tie.f a1 a2).bind fun bt1622 => ((slices_Contains_impl_Tie_impl_Tie.f k t1619 bt1622.1 bt1622.2).bind fun t1624 => (some t1624)))) else (some false))
theorem impl_BridgeIs.mono : ∀ a b c d k, LeO (impl_BridgeIs.f k a b c d) (impl_BridgeIs.f (k + 1) a b c d) := by
 intro a b c d k; unfold impl_BridgeIs.f; have m0_ := @impl_NetHas.mono; have m1_ := @impl_Net_bridges.mono; have m2_ := @slices_Contains_impl_Tie_impl_Tie.mono; exact mo_
set_option maxHeartbeats 8000000 in
set_option maxRecDepth 100000 in
theorem impl_BridgeIs.calls (k : Nat) (c : Int) (j : Option Addr) (l : Nat) (a : List (S33)) (d : Int) (g : Int) (r : Bool) (w : World) (s : Kd.C k33 w j a.length a) (t : a.length ≤ l) (h : impl_BridgeIs.f k c a d g = some r) :
  Calls Try.prog 79 #[.agg #[.int .i64 c, .slice j a.length l], .int .i64 d, .int .i64 g] w fun e w' => e = .returned (.bool r) ∧ Below w.heap.size w w' := by
 have L := Try.underlying31; have n := am s; have o := am t; clear s t; have HB := am (Below.refl w.heap.size w)
 have H : ((impl_NetHas.f k c a d g).bind fun p => (if p = true then ((impl_Net_bridges.f k c a).bind fun m => ((impl_tie.f d g).bind fun u => ((slices_Contains_impl_Tie_impl_Tie.f k m u.1 u.2).bind fun q => (some q)))) else (some false))) = some r := h
 clear h; obtain ⟨p, x, H⟩ := bi_ H; by_cases y : p = true
 ·subst y; rw [if_pos rfl] at H; obtain ⟨m, D, H⟩ := bi_ H; obtain ⟨⟨z, A⟩, E, H⟩ := bi_ H; (try dsimp only at H); obtain ⟨q, G, H⟩ := bi_ H; obtain rfl := Option.some.inj H; go_enter Try.func79, Try.ntmps79
  go_wp2_with (first | ((with_reducible refine gate_dst (N := 3) rfl ?_); refine bx_ 3 #[.int .i64 c, .slice j a.length l] 31 HB ?_; clear HB; intro I hg w9 hb b J HB; clear hb hg; have M := c2 b) | ((with_reducible refine gate_callee (f := 125) rfl ?_); refine gl_ (some 10) Try.func125 #[.agg #[.int .i64 c, .slice j a.length l], .int .i64 d, .int .i64 g] ?_; (with_reducible refine (impl_NetHas.calls k c _ _ a d g true _ ?z_1 ?z_2 x.out).mono ?_); (case z_1 => exact cb n HB); (case z_2 => exact o.out); rintro e w11 ⟨rfl, hb⟩; refine ⟨_, rfl, ?_⟩; replace b := bb b hb; replace HB := bs HB hb; (try clear hb); have O := c2 b) | (go_at_call 100; (with_reducible refine (impl_Net_bridges.calls k c _ _ a m _ ?z_1 ?z_2 D.out).mono ?_); (case z_1 => exact cb n HB); (case z_2 => exact o.out); rintro e w13 ⟨P, rfl, B, hb⟩; have i := am (Kd.R_lower B (below_size (bn HB))); replace b := bb b hb; replace HB := bs HB hb; (try clear hb B)) | (go_at_call 95; (with_reducible refine (impl_tie.calls d g z A _ E.out).mono ?_); rintro e w14 ⟨rfl, hb⟩; replace i := am (Kd.R_below (onR i) hb); replace b := bb b hb; replace HB := bs HB hb; (try clear hb); obtain ⟨T, U, K⟩ := Kd.R_slice i.out; subst K) | (go_at_call 86; (with_reducible refine (slices_Contains_impl_Tie_impl_Tie.calls k _ _ m z A q _ ?z_1 ?z_2 G.out).mono ?_); (case z_1 => exact (Kd.R_reads' (onR i)).2.2); (case z_2 => exact (Kd.R_reads' i.out).2.1); rintro e w16 ⟨rfl, hb⟩; replace i := am (Kd.R_below (onR i) hb); replace b := bb b hb; replace HB := bs HB hb; (try clear hb)))
  go_ret
  exact ⟨er_, bn HB⟩
 ·obtain rfl := nt_ y; rw [if_neg nf_] at H; obtain rfl := Option.some.inj H; go_enter Try.func79, Try.ntmps79
  go_wp2_with (first | ((with_reducible refine gate_dst (N := 3) rfl ?_); refine bx_ 3 #[.int .i64 c, .slice j a.length l] 31 HB ?_; clear HB; intro I hg w17 hb b J HB; clear hb hg; have W := c2 b) | ((with_reducible refine gate_callee (f := 125) rfl ?_); refine gl_ (some 10) Try.func125 #[.agg #[.int .i64 c, .slice j a.length l], .int .i64 d, .int .i64 g] ?_; (with_reducible refine (impl_NetHas.calls k c _ _ a d g false _ ?z_1 ?z_2 x.out).mono ?_); (case z_1 => exact cb n HB); (case z_2 => exact o.out); rintro e w19 ⟨rfl, hb⟩; refine ⟨_, rfl, ?_⟩; replace b := bb b hb; replace HB := bs HB hb; (try clear hb)))
  go_ret
  exact ⟨er_, bn HB⟩

end Go.Proofs.Ythmddmobfkfgeaa.F
