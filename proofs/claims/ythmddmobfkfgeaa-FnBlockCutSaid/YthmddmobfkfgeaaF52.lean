-- By oprint.py.
import Derived.Test.YthmddmobfkfgeaaF0
import Derived.Test.YthmddmobfkfgeaaF4
import Derived.Test.YthmddmobfkfgeaaF45
import Derived.Test.YthmddmobfkfgeaaF48
import Derived.Test.YthmddmobfkfgeaaF49
import Derived.Test.YthmddmobfkfgeaaF50
import Derived.Test.YthmddmobfkfgeaaF51
import Derived.Test.YthmddmobfkfgeaaXBlockKnots
namespace Go.Proofs.Ythmddmobfkfgeaa.F
open Go.RowKit Go.Proofs.YthmddmobfkfgeaaW.PrintWords Go.Proofs.YthmddmobfkfgeaaW.PrintLast Go.Proofs.YthmddmobfkfgeaaW.PrintMore
attribute [local go_sem] max2_int min2_int max_two min_two max_three min_three max_four min_four
set_option linter.unusedVariables false
set_option linter.unusedSimpArgs false

/-! ### laws_FnBlockCut: function 9 -/
mutual
def laws_FnBlockCut.j0 : Nat → List Int → Bool → Int → List (S33) → Option (Bool)
 | 0, _, _, _, _ => none
 | k + 1, x4, x25, x924000, x924001 => if x25 = true then ((spec_BlockCuts.f k x924000 x924001).bind fun t932 => ((laws_loInts.f k x4 t932).bind fun t935 => (some t935))) else ((impl_BlockKnots.f k x924000 x924001).bind fun t936 => (laws_FnBlockCut.l0 k x4 t936 0 x924000 x924001))
def laws_FnBlockCut.l0 : Nat → List Int → List (List Int) → Int → Int → List (S33) → Option (Bool)
 | 0, _, _, _, _, _ => none
 | k + 1, x4, x5, x6, x924000, x924001 => if x6 < x924000 then (laws_FnBlockCut.l1 k x4 x5 x6 0 0 x924000 x924001) else (some true)
def laws_FnBlockCut.l1 : Nat → List Int → List (List Int) → Int → Int → Int → Int → List (S33) → Option (Bool)
 | 0, _, _, _, _, _, _, _ => none
 | k + 1, x4, x5, x6, x7, x8, x924000, x924001 => if x8 < (x5.length : Int) then (if 0 ≤ x8 then ((laws_loIn.f k (rd_L6 x5 x8) x6).bind fun t940 => (if t940 = true then (laws_FnBlockCut.l1 k x4 x5 x6 (wrap64 (x7 + 1)) (wrap64 (x8 + 1)) x924000 x924001) else (laws_FnBlockCut.l1 k x4 x5 x6 x7 (wrap64 (x8 + 1)) x924000 x924001))) else (none)) else ((laws_loIn.f k x4 x6).bind fun t941 => (if (t941 != (decide (x7 > 1))) = true then (some false) else (laws_FnBlockCut.l0 k x4 x5 (wrap64 (x6 + 1)) x924000 x924001)))
end
def laws_FnBlockCut.f (k : Nat) (l0 : List Int) : Option (Bool) := if (l0.length : Int) > 1048576 then (some true) else ((spec_DrawBlockCuts.f k l0).bind fun bt919 => ((impl_BlockCuts.f k bt919.1 bt919.2).bind fun t924 => ((spec_BlockCuts.f k bt919.1 bt919.2).bind fun t927 => ((laws_loInts.f k t924 t927).bind fun t930 => (if t930 = true then ((spec_NetOk.f k bt919.1 bt919.2).bind fun t931 => (laws_FnBlockCut.j0 k t924 (!t931) bt919.1 bt919.2)) else (laws_FnBlockCut.j0 k t924 true bt919.1 bt919.2))))))
theorem laws_FnBlockCut.mono_l : ∀ k, (∀ a b c d, LeO (laws_FnBlockCut.j0 k a b c d) (laws_FnBlockCut.j0 (k + 1) a b c d)) ∧ (∀ a b c d e, LeO (laws_FnBlockCut.l0 k a b c d e) (laws_FnBlockCut.l0 (k + 1) a b c d e)) ∧ (∀ a b c d e f g, LeO (laws_FnBlockCut.l1 k a b c d e f g) (laws_FnBlockCut.l1 (k + 1) a b c d e f g))
 | 0 => ⟨fun _ _ _ _ r h => by simp [laws_FnBlockCut.j0] at h, fun _ _ _ _ _ r h => by simp [laws_FnBlockCut.l0] at h, fun _ _ _ _ _ _ _ r h => by simp [laws_FnBlockCut.l1] at h⟩
 | k + 1 => by
  obtain ⟨ih0, ih1, ih2⟩ := laws_FnBlockCut.mono_l k; refine ⟨?_, ?_, ?_⟩
  ·intro a b c d; unfold laws_FnBlockCut.j0; have i := @impl_BlockCuts.mono; have j := @impl_BlockKnots.mono; have l := @laws_loIn.mono; have m := @laws_loInts.mono; have n := @spec_BlockCuts.mono; have o := @spec_DrawBlockCuts.mono; have p := @spec_NetOk.mono; exact mo_
  ·intro a b c d e; unfold laws_FnBlockCut.l0; have i := @impl_BlockCuts.mono; have j := @impl_BlockKnots.mono; have l := @laws_loIn.mono; have m := @laws_loInts.mono; have n := @spec_BlockCuts.mono; have o := @spec_DrawBlockCuts.mono; have p := @spec_NetOk.mono; exact mo_
  ·intro a b c d e f g; unfold laws_FnBlockCut.l1; have i := @impl_BlockCuts.mono; have j := @impl_BlockKnots.mono; have l := @laws_loIn.mono; have m := @laws_loInts.mono; have n := @spec_BlockCuts.mono; have o := @spec_DrawBlockCuts.mono; have p := @spec_NetOk.mono; exact mo_
theorem laws_FnBlockCut.mono : ∀ a k, LeO (laws_FnBlockCut.f k a) (laws_FnBlockCut.f (k + 1) a) := by
 intro a k; obtain ⟨ih0, ih1, ih2⟩ := laws_FnBlockCut.mono_l k; unfold laws_FnBlockCut.f; have m0_ := @impl_BlockCuts.mono; have m1_ := @impl_BlockKnots.mono; have m2_ := @laws_loIn.mono; have m3_ := @laws_loInts.mono; have m4_ := @spec_BlockCuts.mono; have m5_ := @spec_DrawBlockCuts.mono; have m6_ := @spec_NetOk.mono; exact mo_
set_option maxHeartbeats 8000000 in
set_option maxRecDepth 100000 in
theorem laws_FnBlockCut.calls (k : Nat) (A0 : Option Addr) (c0 : Nat) (l0 : List Int) (r : Bool) (w : World) (aB : Kd.C (Kd.int .u8) w A0 l0.length l0) (aC : l0.length ≤ c0) (hrt : Aside0 (r = true)) (h : laws_FnBlockCut.f k l0 = some r) :
  Calls Try.prog 9 #[.slice A0 l0.length c0] w fun e w' => e = .returned (.bool r) ∧ Below w.heap.size w w' := by
 have bE := Try.underlying31; have aL := am aB; have aM := am aC; clear aB aC; have HB := am (Below.refl w.heap.size w)
 have H : (if (l0.length : Int) > 1048576 then (some true) else ((spec_DrawBlockCuts.f k l0).bind fun B => ((impl_BlockCuts.f k B.1 B.2).bind fun j => ((spec_BlockCuts.f k B.1 B.2).bind fun J => ((laws_loInts.f k j J).bind fun ah => (if ah = true then ((spec_NetOk.f k B.1 B.2).bind fun ab => (laws_FnBlockCut.j0 k j (!ab) B.1 B.2)) else (laws_FnBlockCut.j0 k j true B.1 B.2))))))) = some r := h
 clear h; by_cases c2 : (l0.length : Int) > 1048576
 ·rw [if_pos c2] at H; have ad := decide_eq_true c2; have ae : decide (1048576 < l0.length) = true := decide_eq_true (by omega); clear c2; obtain rfl := Option.some.inj H; go_enter Try.func9, Try.ntmps9; go_wp2
  go_ret
  exact ⟨er_, bn HB⟩
 ·rw [if_neg c2] at H; have ad := decide_eq_false c2; have ae : decide (1048576 < l0.length) = false := decide_eq_false (by omega); clear c2; obtain ⟨⟨l, b⟩, A3, H⟩ := bi_ H; (try dsimp only at H); obtain ⟨j, A4, H⟩ := bi_ H; have ai := am H; clear H; go_enter Try.func9, Try.ntmps9
  go_upto_region 5 with (first | ((with_reducible refine gate_callee (f := 47) rfl ?_); refine gl_ (some 13) Try.func47 #[.slice A0 l0.length c0] ?_; (with_reducible refine (spec_DrawBlockCuts.calls k _ _ l0 l b _ ?z_1 ?z_2 A3.out).mono ?_); (case z_1 => repeat (first | exact aL.out | (with_reducible refine Kd.C_alloc ?_ _) | (with_reducible refine Kd.C_drewN ?_ _) | (with_reducible refine Kd.C_drew ?_))); (case z_2 => exact aM.out); rintro e w6 ⟨bF, rfl, g, hb⟩; refine ⟨_, rfl, ?_⟩; have d := am (Kd.R_lower g (below_size (bn HB))); replace HB := bs HB hb; (try clear hb g)) | ((with_reducible refine gate_dst (N := 3) rfl ?_); refine bx_ 3 #[.int .i64 0, .slice none 0 0] 31 HB ?_; clear HB; intro aj hg w7 hb a bG HB; replace d := am (Kd.R_below (onR d) hb); clear hb hg; have ak := c2 a; obtain ⟨y, u, aN⟩ := Kd.R_slice d.out; subst aN) | ((with_reducible refine gate_callee (f := 48) rfl ?_); refine gl_ (some 15) Try.func48 #[.agg #[.int .i64 l, .slice y b.length u]] ?_; (with_reducible refine (impl_BlockCuts.calls k l _ _ b j _ ?z_1 ?z_2 A4.out).mono ?_); (case z_1 => refine (Kd.R_reads' (e := 33) (base := w.heap.size) (ok := fun k_ => True) (n := b.length) (c := u) ?_).2.2; exact (onR d)); (case z_2 => exact (Kd.R_reads' d.out).2.1); rintro e w10 ⟨U, rfl, g, hb⟩; refine ⟨_, rfl, ?_⟩; replace d := am (Kd.R_below (onR d) hb); have o := am (Kd.R_lower g (below_size (bn HB))); replace a := bb a hb; replace HB := bs HB hb; (try clear hb g)))
  (try simp only [Act.put, List.setIfInBounds_toArray, List.set_cons_zero, List.set_cons_succ])
  go_cut [25] (fun aO wc => ∃ (kq : Nat) (af : Bool), aO = .bool af ∧ Aside0 (laws_FnBlockCut.j0 kq j af l b = some r) ∧ Aside0 (kq ≤ k) ∧ Aside0 (Kd.R (Kd.int .i64) 3 wc w.heap.size (fun _ => True) U j) ∧ Aside0 (Kd.R k33 33 wc w.heap.size (fun _ => True) (.slice y b.length u) b) ∧ Bk wc aj (.cells #[.int .i64 l, (.slice y b.length u)] 31 (0, 0)) ∧ Aside0 (Below w.heap.size w wc))
  case first =>
   have H := ai.out; clear ai; obtain ⟨J, aD, H⟩ := bi_ H; obtain ⟨ah, aE, H⟩ := bi_ H; by_cases W : ah = true
   ·subst W; rw [if_pos rfl] at H; obtain ⟨ab, aP, H⟩ := bi_ H; have H' := am H; clear H; have al := c2 a
    go_wp2_with (first | ((with_reducible refine gate_callee (f := 50) rfl ?_); refine gl_ (some 18) Try.func50 #[.agg #[.int .i64 l, .slice y b.length u]] ?_; (with_reducible refine (spec_BlockCuts.calls k l _ _ b J _ ?z_1 ?z_2 aD.out).mono ?_); (case z_1 => exact (Kd.R_reads' (onR d)).2.2); (case z_2 => exact (Kd.R_reads' d.out).2.1); rintro e w16 ⟨aQ, rfl, g, hb⟩; refine ⟨_, rfl, ?_⟩; replace d := am (Kd.R_below (onR d) hb); have D := am (Kd.R_lower (Kd.R_new' g (Kd.R_lt (onR o))) (below_size (bn HB))); replace o := am (Kd.R_elder' (onR o) (Kd.R_base g) hb); replace a := bb a hb; replace HB := bs HB hb; (try clear hb g); obtain ⟨aR, aS, aT⟩ := Kd.R_slice o.out; subst aT; obtain ⟨aU, aV, aW⟩ := Kd.R_slice D.out; subst aW) | ((with_reducible refine gate_callee (f := 49) rfl ?_); refine gl_ (some 19) Try.func49 #[.slice aR j.length aS, .slice aU J.length aV] ?_; (with_reducible refine (laws_loInts.calls k _ _ j _ _ J true _ ?z_1 ?z_2 ?z_3 ?z_4 aE.out).mono ?_); (case z_1 => exact (Kd.R_reads' (onR o)).2.2); (case z_2 => exact (Kd.R_reads' o.out).2.1); (case z_3 => exact (Kd.R_reads' (onR D)).2.2); (case z_4 => exact (Kd.R_reads' D.out).2.1); rintro e w' ⟨rfl, ⟨nd, rfl⟩⟩; refine ⟨_, rfl, ?_⟩; have an := c2 a) | (go_at_call 41; (with_reducible refine (spec_NetOk.calls k l _ _ b ab _ ?z_1 ?z_2 aP.out).mono ?_); (case z_1 => exact (Kd.R_reads' (onR d)).2.2); (case z_2 => exact (Kd.R_reads' d.out).2.1); rintro e w20 ⟨rfl, hb⟩; replace d := am (Kd.R_below (onR d) hb); replace o := am (Kd.R_below (onR o) hb); replace D := am (Kd.R_below (onR D) hb); replace a := bb a hb; replace HB := bs HB hb; (try clear hb)))
    go_meet
    case rel => exact ⟨_, (!ab), rs_, H', ⟨by first | omega | exact Nat.le_refl _⟩, ⟨Kd.R_mono (onR o) (fun _ hk => trivial)⟩, ⟨onR d⟩, ⟨bkn a⟩, ⟨bn HB⟩⟩
   ·obtain rfl := nt_ W; rw [if_neg nf_] at H; have H' := am H; clear H; have ap := c2 a
    go_wp2_with (first | ((with_reducible refine gate_callee (f := 50) rfl ?_); refine gl_ (some 18) Try.func50 #[.agg #[.int .i64 l, .slice y b.length u]] ?_; (with_reducible refine (spec_BlockCuts.calls k l _ _ b J _ ?z_1 ?z_2 aD.out).mono ?_); (case z_1 => exact (Kd.R_reads' (onR d)).2.2); (case z_2 => exact (Kd.R_reads' d.out).2.1); rintro e w22 ⟨aQ, rfl, g, hb⟩; refine ⟨_, rfl, ?_⟩; replace d := am (Kd.R_below (onR d) hb); have D := am (Kd.R_lower (Kd.R_new' g (Kd.R_lt (onR o))) (below_size (bn HB))); replace o := am (Kd.R_elder' (onR o) (Kd.R_base g) hb); replace a := bb a hb; replace HB := bs HB hb; (try clear hb g); obtain ⟨aX, aY, aZ⟩ := Kd.R_slice o.out; subst aZ; obtain ⟨a0, a1, a2⟩ := Kd.R_slice D.out; subst a2) | ((with_reducible refine gate_callee (f := 49) rfl ?_); refine gl_ (some 19) Try.func49 #[.slice aX j.length aY, .slice a0 J.length a1] ?_; (with_reducible refine (laws_loInts.calls k _ _ j _ _ J false _ ?z_1 ?z_2 ?z_3 ?z_4 aE.out).mono ?_); (case z_1 => exact (Kd.R_reads' (onR o)).2.2); (case z_2 => exact (Kd.R_reads' o.out).2.1); (case z_3 => exact (Kd.R_reads' (onR D)).2.2); (case z_4 => exact (Kd.R_reads' D.out).2.1); rintro e w' ⟨rfl, ⟨nd, rfl⟩⟩; refine ⟨_, rfl, ?_⟩))
    go_meet
    case rel => exact ⟨_, (true), rs_, H', ⟨by first | omega | exact Nat.le_refl _⟩, ⟨Kd.R_mono (onR o) (fun _ hk => trivial)⟩, ⟨onR d⟩, ⟨bkn a⟩, ⟨bn HB⟩⟩
  case rest =>
   clear ai; (try clear c2 ad ae W al an ap ak); obtain ⟨kq, af, rfl, HA, M, m, p, a, HB⟩ := hcut; cases kq with
   | zero => exact absurd HA.out (by simp [laws_FnBlockCut.j0])
   | succ kj4 =>
    have H := HA.out; clear HA; simp only [laws_FnBlockCut.j0] at H; by_cases ag : af = true
    ·subst ag; rw [if_pos rfl] at H; obtain ⟨aq, a3, H⟩ := bi_ H; obtain ⟨a4, a5, H⟩ := bi_ H; obtain rfl := Option.some.inj H; have aF := c2 a
     go_wp2_with (first | ((with_reducible refine gate_callee (f := 50) rfl ?_); refine gl_ (some 28) Try.func50 #[.agg #[.int .i64 l, .slice y b.length u]] ?_; (with_reducible refine (spec_BlockCuts.calls kj4 l _ _ b aq _ ?z_1 ?z_2 a3.out).mono ?_); (case z_1 => exact (Kd.R_reads' (onR p)).2.2); (case z_2 => exact (Kd.R_reads' p.out).2.1); rintro e w29 ⟨bH, rfl, g, hb⟩; refine ⟨_, rfl, ?_⟩; replace p := am (Kd.R_below (onR p) hb); have ar := am (Kd.R_lower (Kd.R_new' g (Kd.R_lt (onR m))) (below_size (bn HB))); replace m := am (Kd.R_elder' (onR m) (Kd.R_base g) hb); replace a := bb a hb; replace HB := bs HB hb; (try clear hb g); obtain ⟨a6, a7, a8⟩ := Kd.R_slice m.out; subst a8; obtain ⟨a9, ba, bd⟩ := Kd.R_slice ar.out; subst bd) | ((with_reducible refine gate_callee (f := 49) rfl ?_); refine gl_ (some 29) Try.func49 #[.slice a6 j.length a7, .slice a9 aq.length ba] ?_; (with_reducible refine (laws_loInts.calls kj4 _ _ j _ _ aq a4 _ ?z_1 ?z_2 ?z_3 ?z_4 a5.out).mono ?_); (case z_1 => exact (Kd.R_reads' (onR m)).2.2); (case z_2 => exact (Kd.R_reads' m.out).2.1); (case z_3 => exact (Kd.R_reads' (onR ar)).2.2); (case z_4 => exact (Kd.R_reads' ar.out).2.1); rintro e w' ⟨rfl, ⟨nd, rfl⟩⟩; refine ⟨_, rfl, ?_⟩))
     go_ret
     exact ⟨er_, bn HB⟩
    ·obtain rfl := nt_ ag; rw [if_neg nf_] at H; obtain ⟨q, bf, H⟩ := bi_ H; have H' := am H; clear H; have aG := c2 a
     go_wp2_with (first | ((with_reducible refine gate_callee (f := 51) rfl ?_); refine gl_ (some 31) Try.func51 #[.agg #[.int .i64 l, .slice y b.length u]] ?_; (with_reducible refine (impl_BlockKnots.calls kj4 l _ _ b q _ ?z_1 ?z_2 bf.out).mono ?_); (case z_1 => exact (Kd.R_reads' (onR p)).2.2); (case z_2 => exact (Kd.R_reads' p.out).2.1); rintro e w34 ⟨aH, rfl, g, hb⟩; refine ⟨_, rfl, ?_⟩; replace p := am (Kd.R_below (onR p) hb); have bg := am (Kd.S_lower (Kd.S_new' g (Kd.R_lt (onR m))) (below_size (bn HB))); replace m := am (Kd.R_below (onR m) hb); replace a := bb a hb; replace HB := bs HB hb; (try clear hb g)))
     go_loopg [6] kj4 (fun kq v6 w' => ∃ (x : Int), v6 = .int .i64 x ∧ Aside0 (laws_FnBlockCut.l0 kq j q x l b = some r) ∧ Aside0 (kq ≤ kj4) ∧ Aside0 (Kd.R (Kd.int .i64) 3 w' w.heap.size (fun _ => True) U j) ∧ Aside0 (Kd.S (Kd.slice 3 (Kd.int .i64)) 57 w' w.heap.size (fun k_ => some k_ ≠ (U : Value).ownBlock) aH q) ∧ Aside0 (Kd.R k33 33 w' w.heap.size (fun _ => True) (.slice y b.length u) b) ∧ Bk w' aj (.cells #[.int .i64 l, (.slice y b.length u)] 31 (0, 0)) ∧ Aside0 (Below w.heap.size w w'))
     case atStart => exact ⟨(0), rs_, H', ⟨Nat.le_refl _⟩, ⟨onR m⟩, ⟨Kd.S_mono (onS bg) (fun _ hk => hk.2)⟩, ⟨onR p⟩, ⟨bkn a⟩, ⟨bn HB⟩⟩
     case round =>
      clear H'; (try clear c2 ad ae W ag al an ap aF aG ak); obtain ⟨x, rfl, HA, O, m, s, p, a, HB⟩ := hrel; cases gk with
      | zero => exact absurd HA.out (by simp [laws_FnBlockCut.l0])
      | succ k2 =>
       have H := HA.out; clear HA; simp only [laws_FnBlockCut.l0] at H; by_cases K : x < l
       ·rw [if_pos K] at H; have aI := decide_eq_true K; clear K; have H' := am H; clear H; have bh := c2 a; go_wp2
        go_loopg [7, 8] k2 (fun kq v7 v8 w' => ∃ (t : Int) (i : Int), v7 = .int .i64 t ∧ v8 = .int .i64 i ∧ Aside0 (laws_FnBlockCut.l1 kq j q x t i l b = some r) ∧ Aside0 (kq ≤ k2) ∧ Aside0 (Kd.R (Kd.int .i64) 3 w' w.heap.size (fun _ => True) U j) ∧ Aside0 (Kd.S (Kd.slice 3 (Kd.int .i64)) 57 w' w.heap.size (fun k_ => some k_ ≠ (U : Value).ownBlock) aH q) ∧ Aside0 (Kd.R k33 33 w' w.heap.size (fun _ => True) (.slice y b.length u) b) ∧ Bk w' aj (.cells #[.int .i64 l, (.slice y b.length u)] 31 (0, 0)) ∧ Aside0 (Below w.heap.size w w'))
        case atStart => exact ⟨(0), (0), rs_, rs_, H', ⟨Nat.le_refl _⟩, ⟨onR m⟩, ⟨onS s⟩, ⟨onR p⟩, ⟨bkn a⟩, ⟨bn HB⟩⟩
        case round =>
         clear H'; (try clear c2 ad ae W ag K aI al an ap aF aG bh ak); obtain ⟨t, i, rfl, rfl, HA, P, m, s, p, a, HB⟩ := hrel; cases gk with
         | zero => exact absurd HA.out (by simp [laws_FnBlockCut.l1])
         | succ k3 =>
          have H := HA.out; clear HA; simp only [laws_FnBlockCut.l1] at H; by_cases T : i < (q.length : Int)
          ·rw [if_pos T] at H; have bi := decide_eq_true T; clear T; obtain ⟨bI, H⟩ := id_ H; obtain ⟨bj, aJ, H⟩ := bi_ H; by_cases aK : bj = true
           ·subst aK; rw [if_pos rfl] at H; have H' := am H; clear H; obtain ⟨bJ, bK, bk⟩ := Kd.S_slice s.out; subst bk; have E : 0 ≤ (i : Int) := oa; have G : i < (q.length : Int) := oa; obtain ⟨bl, au, av, aw, ax, X, Y⟩ := at_L6 (Kd.S_reads' s.out).2.2 i E G; cases aw; obtain ⟨bo, ay, az, Z⟩ := Kd.S_get s.out [] i E (by first | exact G | exact oa | (have e_ := (Kd.S_reads' s.out).1; omega)); obtain ⟨bp, rfl, L⟩ := az; have z := Z 0 _ rfl; rw [Nat.add_zero, show ((Kd.slice 3 (Kd.int .i64))).sz = 1 from rfl, Nat.mul_one] at z; replace z := Option.some.inj (z.symm.trans ax); rw [z] at L; have br := am (show Kd.R (Kd.int .i64) 3 _ _ _ _ (rd_L6 q i) from L); clear z L Z ay; have aa := am Y; have aA := am X; clear Y X; obtain ⟨E, G⟩ := e2_ E G
            go_wp2_with (first | ((with_reducible refine gate_callee (f := 52) rfl ?_); refine gl_ (some 49) Try.func52 #[.slice au (rd_L6 q i).length av, .int .i64 x] ?_; (with_reducible refine (laws_loIn.calls k3 _ _ (rd_L6 q i) x true _ ?z_1 ?z_2 aJ.out).mono ?_); (case z_1 => repeat (first | exact (by repeat (first | (with_reducible exact aa.out) | (with_reducible refine Kd.C_alloc ?_ _) | (with_reducible refine Kd.C_drewN ?_ _) | (with_reducible refine Kd.C_drew ?_) | exact aa.out)) | (with_reducible refine Kd.C_alloc ?_ _) | (with_reducible refine Kd.C_drewN ?_ _) | (with_reducible refine Kd.C_drew ?_))); (case z_2 => exact aA.out); rintro e w' ⟨rfl, ⟨nd, rfl⟩⟩; refine ⟨_, rfl, ?_⟩))
            go_roundg k3
            case measure => have := M.out; have := O.out; have := P.out; omega
            case rel => exact ⟨(wrap64 (t + 1)), (wrap64 (i + 1)), rs_, rs_, H', ⟨by have := M.out; have := O.out; have := P.out; omega⟩, ⟨onR m⟩, ⟨onS s⟩, ⟨onR p⟩, ⟨bkn a⟩, ⟨bn HB⟩⟩
           ·obtain rfl := nt_ aK; rw [if_neg nf_] at H; have H' := am H; clear H; obtain ⟨bL, bM, bu⟩ := Kd.S_slice s.out; subst bu; have E : 0 ≤ (i : Int) := oa; have G : i < (q.length : Int) := oa; obtain ⟨bl, au, av, aw, ax, X, Y⟩ := at_L6 (Kd.S_reads' s.out).2.2 i E G; cases aw; obtain ⟨bo, ay, az, Z⟩ := Kd.S_get s.out [] i E (by first | exact G | exact oa | (have e_ := (Kd.S_reads' s.out).1; omega)); obtain ⟨bp, rfl, L⟩ := az; have z := Z 0 _ rfl; rw [Nat.add_zero, show ((Kd.slice 3 (Kd.int .i64))).sz = 1 from rfl, Nat.mul_one] at z; replace z := Option.some.inj (z.symm.trans ax); rw [z] at L; have br := am (show Kd.R (Kd.int .i64) 3 _ _ _ _ (rd_L6 q i) from L); clear z L Z ay; have aa := am Y; have aA := am X; clear Y X; obtain ⟨E, G⟩ := e2_ E G
            go_wp2_with (first | ((with_reducible refine gate_callee (f := 52) rfl ?_); refine gl_ (some 49) Try.func52 #[.slice au (rd_L6 q i).length av, .int .i64 x] ?_; (with_reducible refine (laws_loIn.calls k3 _ _ (rd_L6 q i) x false _ ?z_1 ?z_2 aJ.out).mono ?_); (case z_1 => repeat (first | exact (by repeat (first | (with_reducible exact aa.out) | (with_reducible refine Kd.C_alloc ?_ _) | (with_reducible refine Kd.C_drewN ?_ _) | (with_reducible refine Kd.C_drew ?_) | exact aa.out)) | (with_reducible refine Kd.C_alloc ?_ _) | (with_reducible refine Kd.C_drewN ?_ _) | (with_reducible refine Kd.C_drew ?_))); (case z_2 => exact aA.out); rintro e w' ⟨rfl, ⟨nd, rfl⟩⟩; refine ⟨_, rfl, ?_⟩))
            go_roundg k3
            case measure => have := M.out; have := O.out; have := P.out; omega
            case rel => exact ⟨(t), (wrap64 (i + 1)), rs_, rs_, H', ⟨by have := M.out; have := O.out; have := P.out; omega⟩, ⟨onR m⟩, ⟨onS s⟩, ⟨onR p⟩, ⟨bkn a⟩, ⟨bn HB⟩⟩
          ·rw [if_neg T] at H; have bi := decide_eq_false T; clear T; obtain ⟨I, bv, H⟩ := bi_ H; by_cases A : (I != (decide (t > 1))) = true
           ·rw [if_pos A] at H; have bw : (I != (decide (t > 1))) = true := A; (try (have bx : decide (I = (decide (t > 1))) = false := by simpa using A)); (try (have bz : (I == (decide (t > 1))) = false := by simpa using A)); (try (have bN : ¬ (I = (decide (t > 1))) := by simpa using A)); clear A; exact absurd (Option.some.inj H) (by rw [hrt.out]; decide)
           ·rw [if_neg A] at H; have bw : (I != (decide (t > 1))) = false := by simpa using A
            (try (have bx : decide (I = (decide (t > 1))) = true := by simpa using A)); (try (have bz : (I == (decide (t > 1))) = true := by simpa using A)); clear A; have H' := am H; clear H; obtain ⟨bO, bP, bA⟩ := Kd.S_slice s.out; subst bA; obtain ⟨bB, bC, bD⟩ := Kd.R_slice m.out; subst bD
            go_wp2_with (first | ((with_reducible refine gate_callee (f := 52) rfl ?_); refine gl_ (some 54) Try.func52 #[.slice bB j.length bC, .int .i64 x] ?_; (with_reducible refine (laws_loIn.calls k3 _ _ j x I _ ?z_1 ?z_2 bv.out).mono ?_); (case z_1 => exact (Kd.R_reads' (onR m)).2.2); (case z_2 => exact (Kd.R_reads' m.out).2.1); rintro e w' ⟨rfl, ⟨nd, rfl⟩⟩; refine ⟨_, rfl, ?_⟩))
            go_roundg k3
            case measure => have := M.out; have := O.out; have := P.out; omega
            case rel => exact ⟨(wrap64 (x + 1)), rs_, H', ⟨by have := M.out; have := O.out; have := P.out; omega⟩, ⟨onR m⟩, ⟨onS s⟩, ⟨onR p⟩, ⟨bkn a⟩, ⟨bn HB⟩⟩
       ·rw [if_neg K] at H; have aI := decide_eq_false K; clear K; obtain rfl := Option.some.inj H; have bQ := c2 a; go_wp2
        go_ret
        exact ⟨er_, bn HB⟩

/-- what is to be proved of laws_FnBlockCut, without Go -/
def laws_FnBlockCut.Pure : Prop := ∀ (l0 : List Int), (l0.length ≤ maxLen ∧ ∀ l0_ ∈ l0, ((Lit.int .u8 l0_).wf = true)) → ∃ k, laws_FnBlockCut.f k l0 = some true

end Go.Proofs.Ythmddmobfkfgeaa.F
