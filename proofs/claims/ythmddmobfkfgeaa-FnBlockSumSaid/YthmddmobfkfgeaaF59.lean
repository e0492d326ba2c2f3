-- By oprint.py.
import Derived.Test.YthmddmobfkfgeaaF0
import Derived.Test.YthmddmobfkfgeaaF4
import Derived.Test.YthmddmobfkfgeaaF54
import Derived.Test.YthmddmobfkfgeaaF57
import Derived.Test.YthmddmobfkfgeaaF58
import Derived.Test.YthmddmobfkfgeaaXBlockKnots
namespace Go.Proofs.Ythmddmobfkfgeaa.F
open Go.RowKit Go.Proofs.YthmddmobfkfgeaaW.PrintWords Go.Proofs.YthmddmobfkfgeaaW.PrintLast Go.Proofs.YthmddmobfkfgeaaW.PrintMore
attribute [local go_sem] max2_int min2_int max_two min_two max_three min_three max_four min_four
set_option linter.unusedVariables false
set_option linter.unusedSimpArgs false

/-! ### laws_FnBlockSum: function 11 -/
mutual
def laws_FnBlockSum.j0 : Nat → List (List Int) → Bool → Int → List (S33) → Option (Bool)
 | 0, _, _, _, _ => none
 | k + 1, x4, x23, x1024000, x1024001 => if x23 = true then ((spec_BlockKnots.f k x1024000 x1024001).bind fun t1032 => ((laws_loRows.f k x4 t1032).bind fun t1035 => (some t1035))) else (laws_FnBlockSum.l0 k x4 0 0 x1024000 x1024001)
def laws_FnBlockSum.l0 : Nat → List (List Int) → Int → Int → Int → List (S33) → Option (Bool)
 | 0, _, _, _, _, _ => none
 | k + 1, x4, x5, x6, x1024000, x1024001 => if x6 < (x4.length : Int) then (if 0 ≤ x6 then (laws_FnBlockSum.l0 k x4 (wrap64 ((wrap64 (x5 + ((rd_L6 x4 x6).length : Int))) - 1)) (wrap64 (x6 + 1)) x1024000 x1024001) else (none)) else ((impl_WayCount.f k x1024000 x1024001).bind fun t1037 => (some (x5 == (wrap64 (x1024000 - t1037)))))
end
def laws_FnBlockSum.f (k : Nat) (l0 : List Int) : Option (Bool) := if (l0.length : Int) > 1048576 then (some true) else ((spec_DrawBlockKnots.f k l0).bind fun bt1019 => ((impl_BlockKnots.f k bt1019.1 bt1019.2).bind fun t1024 => ((spec_BlockKnots.f k bt1019.1 bt1019.2).bind fun t1027 => ((laws_loRows.f k t1024 t1027).bind fun t1030 => (if t1030 = true then ((spec_NetOk.f k bt1019.1 bt1019.2).bind fun t1031 => (laws_FnBlockSum.j0 k t1024 (!t1031) bt1019.1 bt1019.2)) else (laws_FnBlockSum.j0 k t1024 true bt1019.1 bt1019.2))))))
theorem laws_FnBlockSum.mono_l : ∀ k, (∀ a b c d, LeO (laws_FnBlockSum.j0 k a b c d) (laws_FnBlockSum.j0 (k + 1) a b c d)) ∧ (∀ a b c d e, LeO (laws_FnBlockSum.l0 k a b c d e) (laws_FnBlockSum.l0 (k + 1) a b c d e))
 | 0 => ⟨fun _ _ _ _ r h => by simp [laws_FnBlockSum.j0] at h, fun _ _ _ _ _ r h => by simp [laws_FnBlockSum.l0] at h⟩
 | k + 1 => by
  obtain ⟨ih0, ih1⟩ := laws_FnBlockSum.mono_l k; refine ⟨?_, ?_⟩
  ·intro a b c d; unfold laws_FnBlockSum.j0; have f := @impl_BlockKnots.mono; have g := @impl_WayCount.mono; have i := @laws_loRows.mono; have j := @spec_BlockKnots.mono; have l := @spec_DrawBlockKnots.mono; have m := @spec_NetOk.mono; exact mo_
  ·intro a b c d e; unfold laws_FnBlockSum.l0; have f := @impl_BlockKnots.mono; have g := @impl_WayCount.mono; have i := @laws_loRows.mono; have j := @spec_BlockKnots.mono; have l := @spec_DrawBlockKnots.mono; have m := @spec_NetOk.mono; exact mo_
theorem laws_FnBlockSum.mono : ∀ a k, LeO (laws_FnBlockSum.f k a) (laws_FnBlockSum.f (k + 1) a) := by
 intro a k; obtain ⟨ih0, ih1⟩ := laws_FnBlockSum.mono_l k; unfold laws_FnBlockSum.f; have m0_ := @impl_BlockKnots.mono; have m1_ := @impl_WayCount.mono; have m2_ := @laws_loRows.mono; have m3_ := @spec_BlockKnots.mono; have m4_ := @spec_DrawBlockKnots.mono; have m5_ := @spec_NetOk.mono; exact mo_
def laws_FnBlockSum.T12 : Bool × List (List Nat × List Nat) := (true, [([], []), ([], []), ([1], [1]), ([], []), ([3], [3]), ([2, 4], [2, 4]), ([0, 5], [0, 5]), ([6, 4, 0, 1, 2, 3, 4, 5, 6], [6])])
def laws_FnBlockSum.B12 : List Nat := [0, 0, 2, 0, 8, 30, 63, 127]
theorem laws_FnBlockSum.tab12 : rtab .any (opsOf Try.f11 12) = laws_FnBlockSum.T12 := by kernel_rfl
theorem laws_FnBlockSum.bits12 : waitsOk laws_FnBlockSum.T12.2 laws_FnBlockSum.B12 = true := by kernel_rfl
set_option maxHeartbeats 8000000 in
set_option maxRecDepth 100000 in
theorem laws_FnBlockSum.calls (k : Nat) (M : Option Addr) (O : Nat) (l0 : List Int) (r : Bool) (w : World) (ab : Kd.C (Kd.int .u8) w M l0.length l0) (ad : l0.length ≤ O) (hrt : Aside0 (r = true)) (h : laws_FnBlockSum.f k l0 = some r) :
  Calls Try.prog 11 #[.slice M l0.length O] w fun e w' => e = .returned (.bool r) ∧ Below w.heap.size w w' := by
 have a7 := Try.underlying31; have aw := am ab; have ax := am ad; clear ab ad; have HB := am (Below.refl w.heap.size w)
 have H : (if (l0.length : Int) > 1048576 then (some true) else ((spec_DrawBlockKnots.f k l0).bind fun q => ((impl_BlockKnots.f k q.1 q.2).bind fun g => ((spec_BlockKnots.f k q.1 q.2).bind fun y => ((laws_loRows.f k g y).bind fun P => (if P = true then ((spec_NetOk.f k q.1 q.2).bind fun B => (laws_FnBlockSum.j0 k g (!B) q.1 q.2)) else (laws_FnBlockSum.j0 k g true q.1 q.2))))))) = some r := h
 clear h; by_cases c2 : (l0.length : Int) > 1048576
 ·rw [if_pos c2] at H; have T := decide_eq_true c2; have U : decide (1048576 < l0.length) = true := decide_eq_true (by omega); clear c2; obtain rfl := Option.some.inj H; go_enter Try.func11, Try.ntmps11; go_wp2
  go_ret
  exact ⟨er_, bn HB⟩
 ·rw [if_neg c2] at H; have T := decide_eq_false c2; have U : decide (1048576 < l0.length) = false := decide_eq_false (by omega); clear c2; obtain ⟨⟨l, b⟩, A3, H⟩ := bi_ H; (try dsimp only at H); obtain ⟨g, A4, H⟩ := bi_ H; have W := am H; clear H; go_enter Try.func11, Try.ntmps11
  go_upto_region 5 with (first | ((with_reducible refine gate_callee (f := 57) rfl ?_); refine gl_ (some 11) Try.func57 #[.slice M l0.length O] ?_; (with_reducible refine (spec_DrawBlockKnots.calls k _ _ l0 l b _ ?z_1 ?z_2 A3.out).mono ?_); (case z_1 => repeat (first | exact aw.out | (with_reducible refine Kd.C_alloc ?_ _) | (with_reducible refine Kd.C_drewN ?_ _) | (with_reducible refine Kd.C_drew ?_))); (case z_2 => exact ax.out); rintro e w6 ⟨a8, rfl, j, hb⟩; refine ⟨_, rfl, ?_⟩; have d := am (Kd.R_lower j (below_size (bn HB))); replace HB := bs HB hb; (try clear hb j)) | ((with_reducible refine gate_dst (N := 3) rfl ?_); refine bx_ 3 #[.int .i64 0, .slice none 0 0] 31 HB ?_; clear HB; intro ae hg w7 hb a a9 HB; replace d := am (Kd.R_below (onR d) hb); clear hb hg; have af := c2 a; obtain ⟨t, s, ay⟩ := Kd.R_slice d.out; subst ay) | ((with_reducible refine gate_callee (f := 51) rfl ?_); refine gl_ (some 13) Try.func51 #[.agg #[.int .i64 l, .slice t b.length s]] ?_; (with_reducible refine (impl_BlockKnots.calls k l _ _ b g _ ?z_1 ?z_2 A4.out).mono ?_); (case z_1 => refine (Kd.R_reads' (e := 33) (base := w.heap.size) (ok := fun k_ => True) (n := b.length) (c := s) ?_).2.2; exact (onR d)); (case z_2 => exact (Kd.R_reads' d.out).2.1); rintro e w10 ⟨ag, rfl, j, hb⟩; refine ⟨_, rfl, ?_⟩; replace d := am (Kd.R_below (onR d) hb); have m := am (Kd.S_lower j (below_size (bn HB))); replace a := bb a hb; replace HB := bs HB hb; (try clear hb j)))
  (try simp only [Act.put, List.setIfInBounds_toArray, List.set_cons_zero, List.set_cons_succ])
  go_cut [23] (fun az wc => ∃ (kq : Nat) (D : Bool), az = .bool D ∧ Aside0 (laws_FnBlockSum.j0 kq g D l b = some r) ∧ Aside0 (kq ≤ k) ∧ Aside0 (Kd.S (Kd.slice 3 (Kd.int .i64)) 57 wc w.heap.size (fun _ => True) ag g) ∧ Aside0 (Kd.R k33 33 wc w.heap.size (fun _ => True) (.slice t b.length s) b) ∧ Bk wc ae (.cells #[.int .i64 l, (.slice t b.length s)] 31 (0, 0)) ∧ Aside0 (Below w.heap.size w wc))
  case first =>
   have H := W.out; clear W; obtain ⟨y, ah, H⟩ := bi_ H; obtain ⟨P, ai, H⟩ := bi_ H; by_cases E : P = true
   ·subst E; rw [if_pos rfl] at H; obtain ⟨B, aA, H⟩ := bi_ H; have H' := am H; clear H; have aj := c2 a
    go_wp2_with (first | ((with_reducible refine gate_callee (f := 53) rfl ?_); refine gl_ (some 16) Try.func53 #[.agg #[.int .i64 l, .slice t b.length s]] ?_; (with_reducible refine (spec_BlockKnots.calls k l _ _ b y _ ?z_1 ?z_2 ah.out).mono ?_); (case z_1 => exact (Kd.R_reads' (onR d)).2.2); (case z_2 => exact (Kd.R_reads' d.out).2.1); rintro e w16 ⟨aB, rfl, j, hb⟩; refine ⟨_, rfl, ?_⟩; replace d := am (Kd.R_below (onR d) hb); have u := am (Kd.S_lower (Kd.S_new' j (Kd.S_lt (onS m))) (below_size (bn HB))); replace m := am (Kd.S_elder' (onS m) (Kd.S_base j) hb); replace a := bb a hb; replace HB := bs HB hb; (try clear hb j); obtain ⟨aC, aD, aE⟩ := Kd.S_slice m.out; subst aE; obtain ⟨aF, aG, aH⟩ := Kd.S_slice u.out; subst aH) | ((with_reducible refine gate_callee (f := 58) rfl ?_); refine gl_ (some 17) Try.func58 #[.slice aC g.length aD, .slice aF y.length aG] ?_; (with_reducible refine (laws_loRows.calls k _ _ g _ _ y true _ ?z_1 ?z_2 ?z_3 ?z_4 ai.out).mono ?_); (case z_1 => exact (Kd.S_reads' (onS m)).2.2); (case z_2 => exact (Kd.S_reads' m.out).2.1); (case z_3 => exact (Kd.S_reads' (onS u)).2.2); (case z_4 => exact (Kd.S_reads' u.out).2.1); rintro e w' ⟨rfl, ⟨nd, rfl⟩⟩; refine ⟨_, rfl, ?_⟩; have ak := c2 a) | (go_at_call 41; (with_reducible refine (spec_NetOk.calls k l _ _ b B _ ?z_1 ?z_2 aA.out).mono ?_); (case z_1 => exact (Kd.R_reads' (onR d)).2.2); (case z_2 => exact (Kd.R_reads' d.out).2.1); rintro e w20 ⟨rfl, hb⟩; replace d := am (Kd.R_below (onR d) hb); replace m := am (Kd.S_below (onS m) hb); replace u := am (Kd.S_below (onS u) hb); replace a := bb a hb; replace HB := bs HB hb; (try clear hb)))
    go_meet
    case rel => exact ⟨_, (!B), rs_, H', ⟨by first | omega | exact Nat.le_refl _⟩, ⟨Kd.S_mono (onS m) (fun _ hk => trivial)⟩, ⟨onR d⟩, ⟨bkn a⟩, ⟨bn HB⟩⟩
   ·obtain rfl := nt_ E; rw [if_neg nf_] at H; have H' := am H; clear H; have al := c2 a
    go_wp2_with (first | ((with_reducible refine gate_callee (f := 53) rfl ?_); refine gl_ (some 16) Try.func53 #[.agg #[.int .i64 l, .slice t b.length s]] ?_; (with_reducible refine (spec_BlockKnots.calls k l _ _ b y _ ?z_1 ?z_2 ah.out).mono ?_); (case z_1 => exact (Kd.R_reads' (onR d)).2.2); (case z_2 => exact (Kd.R_reads' d.out).2.1); rintro e w22 ⟨aB, rfl, j, hb⟩; refine ⟨_, rfl, ?_⟩; replace d := am (Kd.R_below (onR d) hb); have u := am (Kd.S_lower (Kd.S_new' j (Kd.S_lt (onS m))) (below_size (bn HB))); replace m := am (Kd.S_elder' (onS m) (Kd.S_base j) hb); replace a := bb a hb; replace HB := bs HB hb; (try clear hb j); obtain ⟨aI, aJ, aK⟩ := Kd.S_slice m.out; subst aK; obtain ⟨aL, aM, aN⟩ := Kd.S_slice u.out; subst aN) | ((with_reducible refine gate_callee (f := 58) rfl ?_); refine gl_ (some 17) Try.func58 #[.slice aI g.length aJ, .slice aL y.length aM] ?_; (with_reducible refine (laws_loRows.calls k _ _ g _ _ y false _ ?z_1 ?z_2 ?z_3 ?z_4 ai.out).mono ?_); (case z_1 => exact (Kd.S_reads' (onS m)).2.2); (case z_2 => exact (Kd.S_reads' m.out).2.1); (case z_3 => exact (Kd.S_reads' (onS u)).2.2); (case z_4 => exact (Kd.S_reads' u.out).2.1); rintro e w' ⟨rfl, ⟨nd, rfl⟩⟩; refine ⟨_, rfl, ?_⟩))
    go_meet
    case rel => exact ⟨_, (true), rs_, H', ⟨by first | omega | exact Nat.le_refl _⟩, ⟨Kd.S_mono (onS m) (fun _ hk => trivial)⟩, ⟨onR d⟩, ⟨bkn a⟩, ⟨bn HB⟩⟩
  case rest =>
   clear W; (try clear c2 T U E aj ak al af); obtain ⟨kq, D, rfl, HA, an, i, o, a, HB⟩ := hcut; cases kq with
   | zero => exact absurd HA.out (by simp [laws_FnBlockSum.j0])
   | succ kj4 =>
    have H := HA.out; clear HA; simp only [laws_FnBlockSum.j0] at H; by_cases X : D = true
    ·subst X; rw [if_pos rfl] at H; obtain ⟨Y, aO, H⟩ := bi_ H; obtain ⟨aP, aQ, H⟩ := bi_ H; obtain rfl := Option.some.inj H; have aR := c2 a
     go_wp2_with (first | ((with_reducible refine gate_callee (f := 53) rfl ?_); refine gl_ (some 26) Try.func53 #[.agg #[.int .i64 l, .slice t b.length s]] ?_; (with_reducible refine (spec_BlockKnots.calls kj4 l _ _ b Y _ ?z_1 ?z_2 aO.out).mono ?_); (case z_1 => exact (Kd.R_reads' (onR o)).2.2); (case z_2 => exact (Kd.R_reads' o.out).2.1); rintro e w29 ⟨ba, rfl, j, hb⟩; refine ⟨_, rfl, ?_⟩; replace o := am (Kd.R_below (onR o) hb); have Z := am (Kd.S_lower (Kd.S_new' j (Kd.S_lt (onS i))) (below_size (bn HB))); replace i := am (Kd.S_elder' (onS i) (Kd.S_base j) hb); replace a := bb a hb; replace HB := bs HB hb; (try clear hb j); obtain ⟨aS, aT, aU⟩ := Kd.S_slice i.out; subst aU; obtain ⟨aV, aW, aX⟩ := Kd.S_slice Z.out; subst aX) | ((with_reducible refine gate_callee (f := 58) rfl ?_); refine gl_ (some 27) Try.func58 #[.slice aS g.length aT, .slice aV Y.length aW] ?_; (with_reducible refine (laws_loRows.calls kj4 _ _ g _ _ Y aP _ ?z_1 ?z_2 ?z_3 ?z_4 aQ.out).mono ?_); (case z_1 => exact (Kd.S_reads' (onS i)).2.2); (case z_2 => exact (Kd.S_reads' i.out).2.1); (case z_3 => exact (Kd.S_reads' (onS Z)).2.2); (case z_4 => exact (Kd.S_reads' Z.out).2.1); rintro e w' ⟨rfl, ⟨nd, rfl⟩⟩; refine ⟨_, rfl, ?_⟩))
     go_ret
     exact ⟨er_, bn HB⟩
    ·obtain rfl := nt_ X; rw [if_neg nf_] at H; have H' := am H; clear H; go_wp2
     go_loopg [5, 6] kj4 (fun kq v5 v6 w' => ∃ (G : Int) (p : Int), v5 = .int .i64 G ∧ v6 = .int .i64 p ∧ Aside0 (laws_FnBlockSum.l0 kq g G p l b = some r) ∧ Aside0 (kq ≤ kj4) ∧ Aside0 (Kd.S (Kd.slice 3 (Kd.int .i64)) 57 w' w.heap.size (fun _ => True) ag g) ∧ Aside0 (Kd.R k33 33 w' w.heap.size (fun _ => True) (.slice t b.length s) b) ∧ Bk w' ae (.cells #[.int .i64 l, (.slice t b.length s)] 31 (0, 0)) ∧ Aside0 (Below w.heap.size w w'))
     case atStart => exact ⟨(0), (0), rs_, rs_, H', ⟨Nat.le_refl _⟩, ⟨onS i⟩, ⟨onR o⟩, ⟨bkn a⟩, ⟨bn HB⟩⟩
     case round =>
      clear H'; (try clear c2 T U E X aj ak al aR af); obtain ⟨G, p, rfl, rfl, HA, ap, i, o, a, HB⟩ := hrel; cases gk with
      | zero => exact absurd HA.out (by simp [laws_FnBlockSum.l0])
      | succ k2 =>
       have H := HA.out; clear HA; simp only [laws_FnBlockSum.l0] at H; by_cases z : p < (g.length : Int)
       ·rw [if_pos z] at H; have aY := decide_eq_true z; clear z; obtain ⟨bd, H⟩ := id_ H; have H' := am H; clear H; obtain ⟨bf, bg, aZ⟩ := Kd.S_slice i.out; subst aZ; have I : 0 ≤ (p : Int) := oa; have J : p < (g.length : Int) := oa; obtain ⟨bh, bi, bj, a0, a1, aq, ar⟩ := at_L6 (Kd.S_reads' i.out).2.2 p I J; cases a0; obtain ⟨bk, a2, a3, au⟩ := Kd.S_get i.out [] p I (by first | exact J | exact oa | (have e_ := (Kd.S_reads' i.out).1; omega)); obtain ⟨bl, rfl, aa⟩ := a3; have A := au 0 _ rfl; rw [Nat.add_zero, show ((Kd.slice 3 (Kd.int .i64))).sz = 1 from rfl, Nat.mul_one] at A; replace A := Option.some.inj (A.symm.trans a1); rw [A] at aa; have bo := am (show Kd.R (Kd.int .i64) 3 _ _ _ _ (rd_L6 g p) from aa); clear A aa au a2; have bp := am ar; have br := am aq; clear ar aq; obtain ⟨I, J⟩ := e2_ I J; go_wp2
        go_roundg k2
        case measure => have := an.out; have := ap.out; omega
        case rel => exact ⟨(wrap64 ((wrap64 (G + ((rd_L6 g p).length : Int))) - 1)), (wrap64 (p + 1)), rs_, rs_, H', ⟨by have := an.out; have := ap.out; omega⟩, ⟨onS i⟩, ⟨onR o⟩, ⟨bkn a⟩, ⟨bn HB⟩⟩
       ·rw [if_neg z] at H; have aY := decide_eq_false z; clear z; obtain ⟨a4, a5, H⟩ := bi_ H; obtain rfl := Option.some.inj H; obtain ⟨bu, bv, a6⟩ := Kd.S_slice i.out; subst a6; try go_wp2
        replace i := dS i; replace o := dR o; replace a := dB a; replace HB := dL HB; refine s2_ 8 [] (bq a 0) (bq a 1) (fun L => ?_); refine with_tabW laws_FnBlockSum.tab12 laws_FnBlockSum.bits12 (fun x av => ?_); generalize wr.drew = w37 at i o a HB L ⊢; refine pz_ 0 x ?_; refine pz_ 1 x ?_; refine tz_ 2 x av L ?_; refine tz_ 3 x av L ?_; refine on_ 4 x (fun K hK => ?_); refine gg_ Try.func59 #[.agg #[.int .i64 l, .slice t b.length s]] ?_
        with_reducible refine (impl_WayCount.calls k2 l _ _ b a4 _ ?z_1 ?z_2 a5.out).mono ?_
        (case z_1 => exact (Kd.R_reads' (onR o)).2.2); (case z_2 => exact (Kd.R_reads' o.out).2.1); rintro e w38 ⟨rfl, hb⟩; refine ⟨_, rfl, ?_⟩; replace i := am (Kd.S_below (onS i) hb); replace o := am (Kd.R_below (onR o) hb); replace a := bb a hb; replace HB := bs HB hb; (try clear hb hk); refine hK.out _ _ ⟨(bc a 0), (bc a 1)⟩ (fun L => ?_); clear hK K; refine nz_ 46 ?_; refine pz_ 5 x ?_; refine pz_ 6 x ?_; refine pz_ 7 x ?_; refine done_ (done_of x.out (by kernel_rfl)) ?_; try go_wp2
        go_ret
        exact ⟨er_, bn HB⟩

/-- what is to be proved of laws_FnBlockSum, without Go -/
def laws_FnBlockSum.Pure : Prop := ∀ (l0 : List Int), (l0.length ≤ maxLen ∧ ∀ l0_ ∈ l0, ((Lit.int .u8 l0_).wf = true)) → ∃ k, laws_FnBlockSum.f k l0 = some true

end Go.Proofs.Ythmddmobfkfgeaa.F
