-- By oprint.py.
import Derived.Test.YtlddkafpbhjpdaaF0
import Derived.Test.YtlddkafpbhjpdaaF1
import Derived.Test.YtlddkafpbhjpdaaF13
import Derived.Test.YtlddkafpbhjpdaaF3
import Derived.Test.YtlddkafpbhjpdaaF4
namespace Go.Proofs.Ytlddkafpbhjpdaa.F
open Go.RowKit Go.Proofs.YtlddkafpbhjpdaaW.PrintWords Go.Proofs.YtlddkafpbhjpdaaW.PrintLast Go.Proofs.YtlddkafpbhjpdaaW.PrintMore
attribute [local go_sem] max2_int min2_int max_two min_two max_three min_three max_four min_four
set_option linter.unusedVariables false
set_option linter.unusedSimpArgs false

attribute [local go_sem high] eqA44
/-! ### spec_NetCut: function 52 -/
def spec_NetCut.l0 : Nat → Int → Int → Int → Int → List (S44) → Int → List (S44) → Option (Int × (List (S44)) × Bool)
 | 0, _, _, _, _, _, _, _ => none
 | k + 1, x1, x2, x9, x663000, x663001, x666000, x666001 => if x9 < (x663001.length : Int) then (if 0 ≤ x9 then ((spec_l1Tie.f x1 x2).bind fun bt667 => (if (!(((rd_T44 x663001 x9).f0) == bt667.1) || (!(((rd_T44 x663001 x9).f1) == bt667.2))) = true then (if x666001.length < 8796093022208 then (spec_NetCut.l0 k x1 x2 (wrap64 (x9 + 1)) x663000 x663001 x666000 (x666001 ++ [(⟨(rd_T44 x663001 x9).f0, (rd_T44 x663001 x9).f1⟩ : S44)])) else (none)) else (spec_NetCut.l0 k x1 x2 (wrap64 (x9 + 1)) x663000 x663001 x666000 x666001))) else (none)) else (some (x666000, x666001, true))
def spec_NetCut.f (k : Nat) (a0_0 : Int) (l0_1 : List (S44)) (a1 : Int) (a2 : Int) : Option (Int × (List (S44)) × Bool) := (spec_NetHas.f k a0_0 l0_1 a1 a2).bind fun t664 => (if t664 = true then (spec_NetCut.l0 k a1 a2 0 a0_0 l0_1 a0_0 ([] : List (S44))) else (some (0, ([] : List (S44)), false)))
theorem spec_NetCut.mono_l : ∀ k, (∀ a b c d e f g, LeO (spec_NetCut.l0 k a b c d e f g) (spec_NetCut.l0 (k + 1) a b c d e f g))
 | 0 => fun _ _ _ _ _ _ _ r h => by simp [spec_NetCut.l0] at h
 | k + 1 => by
  have ih0 := spec_NetCut.mono_l k
  ·intro a b c d e f g; unfold spec_NetCut.l0; have m0_ := @spec_NetHas.mono; exact mo_
theorem spec_NetCut.mono : ∀ a b c d k, LeO (spec_NetCut.f k a b c d) (spec_NetCut.f (k + 1) a b c d) := by
 intro a b c d k; have ih0 := spec_NetCut.mono_l k; unfold spec_NetCut.f; have m0_ := @spec_NetHas.mono; exact mo_
def spec_NetCut.T7 : Bool × List (List Nat × List Nat) := (true, [([], []), ([0], [0]), ([], []), ([1, 2], [1, 2]), ([3], [3]), ([], []), ([], []), ([5, 6], [5, 6]), ([4, 7], [4, 7])])
def spec_NetCut.B7 : List Nat := [0, 1, 0, 7, 15, 0, 0, 96, 255]
theorem spec_NetCut.tab7 : rtab .any (opsOf Try.f52 7) = spec_NetCut.T7 := by kernel_rfl
theorem spec_NetCut.bits7 : waitsOk spec_NetCut.T7.2 spec_NetCut.B7 = true := by kernel_rfl
def spec_NetCut.T8 : Bool × List (List Nat × List Nat) := (true, [([], []), ([0], [0]), ([], []), ([2], [2]), ([], []), ([3, 4], [3, 4]), ([5], [5]), ([6], [6]), ([1, 7], [1, 7]), ([0, 1, 2, 3, 4, 5, 6, 7, 8], []), ([9, 8, 8, 0, 1, 2, 3, 4, 5, 6, 7, 8], [8, 9])])
def spec_NetCut.B8 : List Nat := [0, 1, 0, 4, 0, 28, 60, 124, 255, 511, 1023]
theorem spec_NetCut.tab8 : rtab .any (opsOf Try.f52 8) = spec_NetCut.T8 := by kernel_rfl
theorem spec_NetCut.bits8 : waitsOk spec_NetCut.T8.2 spec_NetCut.B8 = true := by kernel_rfl
set_option maxHeartbeats 8000000 in
set_option maxRecDepth 100000 in
theorem spec_NetCut.calls (k : Nat) (m : Int) (u : Option Addr) (x : Nat) (b : List (S44)) (o : Int) (p : Int) (I : Int) (J : List (S44)) (L : Bool) (w : World) (ap : Kd.C k44 w u b.length b) (aq : b.length ≤ x) (h : spec_NetCut.f k m b o p = some (I, J, L)) :
  Calls Try.prog 52 #[.agg #[.int .i64 m, .slice u b.length x], .int .i64 o, .int .i64 p] w fun e w' => ∃ ar : Value, e = .returned (.tuple #[.agg #[.int .i64 I, ar], .bool L]) ∧ Kd.R k44 44 w' w.heap.size (fun _ => True) ar J ∧ Below w.heap.size w w' := by
 have a7 := Try.underlying25; have a8 := Try.underlying44; have M := am ap; have au := am aq; clear ap aq; have HB := am (Below.refl w.heap.size w)
 have H : ((spec_NetHas.f k m b o p).bind fun af => (if af = true then (spec_NetCut.l0 k o p 0 m b m ([] : List (S44))) else (some (0, ([] : List (S44)), false)))) = some (I, J, L) := h
 clear h; obtain ⟨af, A4, H⟩ := bi_ H; by_cases c5 : af = true
 ·subst c5; rw [if_pos rfl] at H; have H' := am H; clear H; go_enter Try.func52, Try.ntmps52
  go_wp2_with (first | ((with_reducible refine gate_dst (N := 3) rfl ?_); refine bx_ 3 #[.int .i64 m, .slice u b.length x] 25 HB ?_; clear HB; intro av hg w6 hb a aI HB; clear hb hg) | ((with_reducible refine gate_dst (N := 6) rfl ?_); refine bx_ 6 #[.int .i64 0, .slice none 0 0] 25 HB ?_; clear HB; intro Y hg w7 hb d aJ HB; obtain ⟨B, D⟩ := nb_ hg a; replace a := bb a hb; clear hb hg; have a9 := n2 B D; have aK := c2 a) | ((with_reducible refine gate_callee (f := 23) rfl ?_); refine gl_ (some 13) Try.func23 #[.agg #[.int .i64 m, .slice u b.length x], .int .i64 o, .int .i64 p] ?_; (with_reducible refine (spec_NetHas.calls k m _ _ b o p true _ ?z_1 ?z_2 A4.out).mono ?_); (case z_1 => exact cb M HB); (case z_2 => exact au.out); rintro e w10 ⟨rfl, hb⟩; refine ⟨_, rfl, ?_⟩; replace a := bb a hb; replace d := bb d hb; replace HB := bs HB hb; (try clear hb); have aM := c2 a) | ((with_reducible refine gate_dst (N := 8) rfl ?_); refine bx_ 8 #[.int .i64 0, .slice none 0 0] 25 HB ?_; clear HB; intro aN hg w12 hb g ba HB; obtain ⟨O, P⟩ := nb_ hg a; replace a := bb a hb; obtain ⟨ag, ah⟩ := nb_ hg d; replace d := bb d hb; clear hb hg; have bd := n2 P O; have be := n2 ah ag; have aQ := c2 g))
  go_loopg [9] k (fun kq v9 w' => ∃ (j : Int) (y : List (S44)) (u666001 : Value), v9 = .int .i64 j ∧ Aside0 (spec_NetCut.l0 kq o p j m b m y = some (I, J, L)) ∧ Aside0 (kq ≤ k) ∧ Aside0 (Kd.R k44 44 w' w.heap.size (fun _ => True) u666001 y) ∧ Bk w' av (.cells #[.int .i64 m, (.slice u b.length x)] 25 (0, 0)) ∧ Bk w' Y (.cells #[.int .i64 0, (.slice none 0 0)] 25 (0, 0)) ∧ Bk w' aN (.cells #[.int .i64 m, u666001] 25 (0, 0)) ∧ Aside0 (Below w.heap.size w w'))
  case atStart => exact ⟨(0), (([] : List (S44))), (.slice none 0 0), rs_, H', ⟨Nat.le_refl _⟩, ⟨by first | exact Kd.R_nil _ _ _ _ _ | exact Kd.N_nil _ _ _ _ _ | exact Kd.V_nil _ _ _ _ _ | exact Kd.Q_nil _ _ _ _ _ | exact Kd.S_nil _ _ _ _ _⟩, ⟨bkn a⟩, ⟨bkn d⟩, ⟨by (with_reducible repeat (first | refine blk_drewN ?_ _ | refine blk_drew ?_ | refine blk_alloc ?_ _)); refine blk_put (cs := #[.int .i64 m, .slice none 0 0]) ?_ 1 _ rfl; (with_reducible repeat (first | refine blk_drewN ?_ _ | refine blk_drew ?_ | refine blk_alloc ?_ _)); refine blk_put (cs := #[.int .i64 0, .slice none 0 0]) ?_ 0 _ rfl; (with_reducible repeat (first | refine blk_drewN ?_ _ | refine blk_drew ?_ | refine blk_alloc ?_ _)); exact g.out⟩, ⟨bn HB⟩⟩
  case round =>
   clear H'; (try clear c2 c5 aM aQ aK); obtain ⟨j, y, u666001, rfl, HA, Z, l, a, d, g, HB⟩ := hrel; cases gk with
   | zero => exact absurd HA.out (by simp [spec_NetCut.l0])
   | succ k1 =>
    have H := HA.out; clear HA; simp only [spec_NetCut.l0] at H; by_cases E : j < (b.length : Int)
    ·rw [if_pos E] at H; have aR := decide_eq_true E; clear E; obtain ⟨bf, H⟩ := id_ H; obtain ⟨⟨T, U⟩, aw, H⟩ := bi_ H; (try dsimp only at H); by_cases G : (!(((rd_T44 b j).f0) == T) || (!(((rd_T44 b j).f1) == U))) = true
     ·rw [if_pos G] at H; have aT : (!(((rd_T44 b j).f0) == T) || (!(((rd_T44 b j).f1) == U))) = true := G; clear G; obtain ⟨ax, H⟩ := ig_ H; have aU := am ax; clear ax; obtain ⟨ai, aj⟩ : ∃ y_ : List (S44), y_ = (y ++ [(⟨(rd_T44 b j).f0, (rd_T44 b j).f1⟩ : S44)]) := ⟨_, rfl⟩; replace H : (spec_NetCut.l0 k1 o p (wrap64 (j + 1)) m b m ai) = some (I, J, L) := nh_ aj H; have aV := am aj; clear aj; have H' := am H; clear H; have bg := n2 B D; have bh := n2 O P; have bi := c2 a; try go_wp2
      replace l := dR l; replace a := dB a; replace d := dB d; replace g := dB g; replace HB := dL HB; have z : 0 ≤ (j : Int) := oa; have A : j < (b.length : Int) := oa; obtain ⟨ay, ak, q, s⟩ := at_T44 M.out j z A; have W := s; have X := q; cases ak; replace q := hc_ HB q; replace s := hc_ HB s; obtain ⟨z, A⟩ := e2_ z A; refine s4_ 9 [] (bq a 0) (bq a 1) (hb_ HB X) (hb_ HB W) (fun n => ?_); refine with_tabW spec_NetCut.tab7 spec_NetCut.bits7 (fun c t => ?_); generalize wr.drew = w24 at l a d g HB q s n ⊢; refine pz_ 0 c ?_; refine pz_ 2 c ?_; refine pz_ 5 c ?_; refine pz_ 6 c ?_; refine tz_ 1 c t n ?_; refine pz_ 3 c ?_; refine tz_ 4 c t n ?_; refine on_ 7 c (fun K hK => ?_); refine gg_ Try.func68 #[.int .i64 o, .int .i64 p] ?_
      with_reducible refine (spec_l1Tie.calls o p T U _ aw.out).mono ?_
      rintro e aW ⟨rfl, hb⟩; refine ⟨_, rfl, ?_⟩; replace l := am (Kd.R_below (onR l) hb); replace a := bb a hb; replace d := bb d hb; replace g := bb g hb; replace HB := bs HB hb; (try clear hb); refine hK.out _ _ ⟨(bc a 0), (bc a 1), (hb_ HB X), (hb_ HB W)⟩ (fun n => ?_); clear hK K; refine nz_ 33 ?_; refine pz_ 8 c ?_; refine done_ (done_of c.out (by kernel_rfl)) ?_; try go_wp2
      replace l := dR l; replace a := dB a; replace d := dB d; replace g := dB g; replace HB := dL HB; have al : 0 ≤ (j : Int) := oa; have an : j < (b.length : Int) := oa; obtain ⟨aX, aY, aa, ab⟩ := at_T44 M.out j al an; have ad := ab; have ae := aa; obtain rfl : ay = aX := (by injection aY); replace aa := hc_ HB aa; replace ab := hc_ HB ab; obtain ⟨al, an⟩ := e2_ al an; refine s6_ 11 [10] (bq g 0) (bq g 1) (bq a 0) (bq a 1) (hb_ HB ae) (hb_ HB ad) (fun n => ?_); refine with_tabW spec_NetCut.tab8 spec_NetCut.bits8 (fun c t => ?_); generalize aW.drew = w26 at l a d g HB aa ab n ⊢; refine pz_ 0 c ?_; refine pz_ 2 c ?_; refine pz_ 4 c ?_; refine tz_ 1 c t n ?_; refine tz_ 3 c t n ?_; refine pz_ 5 c ?_; refine tz_ 6 c t n ?_; refine on_ 7 c (fun K hK => ?_); refine value_ (w1 := ?_) (v := ?_) (by rfl) rfl ?_ ?_
      rotate_left 2
      ·go_simp
       constructor
       ·rfl
       ·rfl
      refine hK.out _ _ ⟨(blk_cell (blk_alloc g.out _) 0).trans rfl, (blk_cell (blk_alloc g.out _) 1).trans rfl, (blk_cell (blk_alloc a.out _) 0).trans rfl, (blk_cell (blk_alloc a.out _) 1).trans rfl, (World.cell?_alloc_lt _ _ _ (World.block_lt_of_cell? _ _ ((hb_ HB ae)))).trans ((hb_ HB ae)), (World.cell?_alloc_lt _ _ _ (World.block_lt_of_cell? _ _ ((hb_ HB ad)))).trans ((hb_ HB ad))⟩ (fun n => ?_); clear hK K; refine nz_ 42 ?_; refine on_ 8 c (fun K hK => ?_); refine Kd.R_append_step k44 (w0 := w) w.heap.size (by rfl) (.tmp 36) (.tmp 42) 23 44 (.agg #[(.int .i64 0), (.int .i64 0)]) 16 rfl Try.underlying23 info44 rfl (by decide) (by omega) u666001 y (⟨(rd_T44 b j).f0, (rd_T44 b j).f1⟩ : S44) [.int .i64 ((rd_T44 b j).f0), .int .i64 ((rd_T44 b j).f1)] (fun _ => True) (fun _ => False) rfl rfl ?aP (fun _ hk => hk.elim) ?aF ?aO ?aB ?aS ?aL ?_; (case aP => exact k44_mkM _ _ _ (⟨(rd_T44 b j).f0, (rd_T44 b j).f1⟩ : S44)); (case aB => exact (bn HB)); (case aF => exact (fun _ _ => trivial)); (case aO => exact (onR l)); (case aS => exact (below_size (bn HB))); (case aL => have := aU.out; omega); intro bj w27 ho hb hg aZ; rw [← aV.out] at ho; have az := bm (blk_grown (bkn a) hg (Kd.R_ne l.out a.out (by decide))); have aA := bm (blk_grown (bkn d) hg (Kd.R_ne l.out d.out (by decide))); have aC := bm (blk_grown (bkn g) hg (Kd.R_ne l.out g.out (by decide))); have aD := am hb; have aE := am ho; clear a d g HB l; have a := az; have d := aA; have g := aC; have HB := aD; have aG := aE; clear az aA aC aD aE ho hb hg aZ; obtain ⟨a0, a1, aH⟩ := Kd.R_slice aG.out; (first | subst aH | (injection aH with f1_ f2_ f3_; have a2 := f1_.symm; have a3 := f3_.symm; clear f1_ f2_ f3_; subst a2; subst a3)); refine hK.out _ _ ⟨(bc g 0), (bc g 1), (bc a 0), (bc a 1), (hb_ HB ae), (hb_ HB ad)⟩ (fun n => ?_); clear hK K; refine nz_ 43 ?_; refine pz_ 9 c ?_; refine last_ (i := 10) (N := none) #[true, true, true, true, true, true, true, true, true, true, true] rfl rfl (one_of c.out (by kernel_rfl)) (by decide) (fun K hK => ?_); have bk := bc g 1; have bl := blk_frozen g.out 1; have bo := O.out; have bp := ag.out; have br := P.out; have bu := ah.out; refine skip_ (w1 := ?_) (by rfl) rfl ?_ ?_
      rotate_left
      ·go_simp
       rfl
      refine hK.out _ _ ?_; clear hK K; refine done_ (done_of c.out (by kernel_rfl)) ?_; try go_wp2
      go_roundg k1
      case measure => have := Z.out; omega
      case rel => exact ⟨(wrap64 (j + 1)), (ai), (.slice a0 ai.length a1), rs_, H', ⟨by have := Z.out; omega⟩, ⟨Kd.R_mono (onR aG) (fun _ hk => trivial)⟩, ⟨bkn a⟩, ⟨bkn d⟩, ⟨by (with_reducible repeat (first | refine blk_drewN ?_ _ | refine blk_drew ?_ | refine blk_alloc ?_ _)); refine blk_put (cs := #[.int .i64 m, u666001]) ?_ 1 _ rfl; (with_reducible repeat (first | refine blk_drewN ?_ _ | refine blk_drew ?_ | refine blk_alloc ?_ _)); exact g.out⟩, ⟨bn HB⟩⟩
     ·rw [if_neg G] at H; have aT : (!(((rd_T44 b j).f0) == T) || (!(((rd_T44 b j).f1) == U))) = false := by simpa using G
      clear G; have H' := am H; clear H; have bv := n2 B D; have bw := n2 O P; have bx := c2 a; try go_wp2
      replace l := dR l; replace a := dB a; replace d := dB d; replace g := dB g; replace HB := dL HB; have z : 0 ≤ (j : Int) := oa; have A : j < (b.length : Int) := oa; obtain ⟨ay, ak, q, s⟩ := at_T44 M.out j z A; have W := s; have X := q; cases ak; replace q := hc_ HB q; replace s := hc_ HB s; obtain ⟨z, A⟩ := e2_ z A; refine s4_ 9 [] (bq a 0) (bq a 1) (hb_ HB X) (hb_ HB W) (fun n => ?_); refine with_tabW spec_NetCut.tab7 spec_NetCut.bits7 (fun c t => ?_); generalize wr.drew = w33 at l a d g HB q s n ⊢; refine pz_ 0 c ?_; refine pz_ 2 c ?_; refine pz_ 5 c ?_; refine pz_ 6 c ?_; refine tz_ 1 c t n ?_; refine pz_ 3 c ?_; refine tz_ 4 c t n ?_; refine on_ 7 c (fun K hK => ?_); refine gg_ Try.func68 #[.int .i64 o, .int .i64 p] ?_
      with_reducible refine (spec_l1Tie.calls o p T U _ aw.out).mono ?_
      rintro e w34 ⟨rfl, hb⟩; refine ⟨_, rfl, ?_⟩; replace l := am (Kd.R_below (onR l) hb); replace a := bb a hb; replace d := bb d hb; replace g := bb g hb; replace HB := bs HB hb; (try clear hb hk); refine hK.out _ _ ⟨(bc a 0), (bc a 1), (hb_ HB X), (hb_ HB W)⟩ (fun n => ?_); clear hK K; refine nz_ 33 ?_; refine pz_ 8 c ?_; refine done_ (done_of c.out (by kernel_rfl)) ?_; try go_wp2
      go_roundg k1
      case measure => have := Z.out; omega
      case rel => exact ⟨(wrap64 (j + 1)), (y), (u666001), rs_, H', ⟨by have := Z.out; omega⟩, ⟨onR l⟩, ⟨bkn a⟩, ⟨bkn d⟩, ⟨bkn g⟩, ⟨bn HB⟩⟩
    ·rw [if_neg E] at H; have aR := decide_eq_false E; clear E; simp only [Option.some.injEq, Prod.mk.injEq] at H; obtain ⟨rfl, rfl, rfl⟩ := H; have bz := n2 B D; have bA := n2 O P; have bB := c2 a; have bC := n2 ah ag; have bD := c2 g; have bE := c2 d; obtain ⟨a4, a5, a6⟩ := Kd.R_slice l.out; subst a6; go_wp2; refine bodyPost_ret (results_ct rfl _ _ Y 25 #[.int .i64 m, .slice a4 y.length a5] (0, 0) _ rfl (bkn d) Try.underlying25 rfl (by kernel_rfl)) rfl ?_; exact ⟨_, er_, Kd.R_mono (onR l) (fun _ hk => trivial), bn HB⟩
 ·obtain rfl := nt_ c5; rw [if_neg nf_] at H; simp only [Option.some.injEq, Prod.mk.injEq] at H; obtain ⟨rfl, rfl, rfl⟩ := H; go_enter Try.func52, Try.ntmps52
  go_wp2_with (first | ((with_reducible refine gate_dst (N := 3) rfl ?_); refine bx_ 3 #[.int .i64 m, .slice u b.length x] 25 HB ?_; clear HB; intro av hg w42 hb a aI HB; clear hb hg) | ((with_reducible refine gate_dst (N := 6) rfl ?_); refine bx_ 6 #[.int .i64 0, .slice none 0 0] 25 HB ?_; clear HB; intro Y hg w43 hb d aJ HB; obtain ⟨B, D⟩ := nb_ hg a; replace a := bb a hb; clear hb hg; have bF := n2 B D; have bG := c2 a) | ((with_reducible refine gate_callee (f := 23) rfl ?_); refine gl_ (some 13) Try.func23 #[.agg #[.int .i64 m, .slice u b.length x], .int .i64 o, .int .i64 p] ?_; (with_reducible refine (spec_NetHas.calls k m _ _ b o p false _ ?z_1 ?z_2 A4.out).mono ?_); (case z_1 => exact cb M HB); (case z_2 => exact au.out); rintro e w46 ⟨rfl, hb⟩; refine ⟨_, rfl, ?_⟩; replace a := bb a hb; replace d := bb d hb; replace HB := bs HB hb; (try clear hb); have bH := c2 d))
  refine bodyPost_ret (results_ct rfl _ _ Y 25 #[.int .i64 0, .slice none 0 0] (0, 0) _ rfl (bkn d) Try.underlying25 rfl (by kernel_rfl)) rfl ?_; exact ⟨_, er_, by first | exact Kd.R_nil _ _ _ _ _ | exact Kd.N_nil _ _ _ _ _ | exact Kd.V_nil _ _ _ _ _ | exact Kd.Q_nil _ _ _ _ _ | exact Kd.S_nil _ _ _ _ _, bn HB⟩

/-! ### spec_WayParts: function 69 -/
mutual
def spec_WayParts.l0 : Nat → List Int → Int → Int → List (S44) → Option (List Int)
 | 0, _, _, _, _ => none
 | k + 1, x3, x4, x674000, x674001 => if x4 < x674000 then ((spec_WayReach.f k x674000 x674001 x4).bind fun t678 => (spec_WayParts.l1 k x3 x4 t678 0 x674000 x674001)) else (some x3)
def spec_WayParts.l1 : Nat → List Int → Int → List Bool → Int → Int → List (S44) → Option (List Int)
 | 0, _, _, _, _, _, _ => none
 | k + 1, x3, x4, x5, x6, x674000, x674001 => if 0 ≤ x6 then (if x6 < (x5.length : Int) then (if rdOf false x5 x6 = true then (if x3.length < 17592186044416 then (spec_WayParts.l0 k (x3 ++ [x6]) (wrap64 (x4 + 1)) x674000 x674001) else (none)) else (spec_WayParts.l1 k x3 x4 x5 (wrap64 (x6 + 1)) x674000 x674001)) else (none)) else (none)
end
def spec_WayParts.f (k : Nat) (a0_0 : Int) (l0_1 : List (S44)) : Option (List Int) := (some (([] : List Int) : List Int)).bind fun y674 => ((spec_NetOk.f k a0_0 l0_1).bind fun t677 => (if t677 = true then (spec_WayParts.l0 k y674 0 a0_0 l0_1) else (some y674)))
theorem spec_WayParts.mono_l : ∀ k, (∀ a b c d, LeO (spec_WayParts.l0 k a b c d) (spec_WayParts.l0 (k + 1) a b c d)) ∧ (∀ a b c d e f, LeO (spec_WayParts.l1 k a b c d e f) (spec_WayParts.l1 (k + 1) a b c d e f))
 | 0 => ⟨fun _ _ _ _ r h => by simp [spec_WayParts.l0] at h, fun _ _ _ _ _ _ r h => by simp [spec_WayParts.l1] at h⟩
 | k + 1 => by
  obtain ⟨ih0, ih1⟩ := spec_WayParts.mono_l k; refine ⟨?_, ?_⟩
  ·intro a b c d; unfold spec_WayParts.l0; have g := @spec_NetOk.mono; have i := @spec_WayReach.mono; exact mo_
  ·intro a b c d e f; unfold spec_WayParts.l1; have g := @spec_NetOk.mono; have i := @spec_WayReach.mono; exact mo_
theorem spec_WayParts.mono : ∀ a b k, LeO (spec_WayParts.f k a b) (spec_WayParts.f (k + 1) a b) := by
 intro a b k; obtain ⟨ih0, ih1⟩ := spec_WayParts.mono_l k; unfold spec_WayParts.f; have m0_ := @spec_NetOk.mono; have m1_ := @spec_WayReach.mono; exact mo_
set_option maxHeartbeats 8000000 in
set_option maxRecDepth 100000 in
theorem spec_WayParts.calls (k : Nat) (d : Int) (m : Option Addr) (n : Nat) (a : List (S44)) (r : List Int) (w : World) (X : Kd.C k44 w m a.length a) (Y : a.length ≤ n) (h : spec_WayParts.f k d a = some r) :
  Calls Try.prog 69 #[.agg #[.int .i64 d, .slice m a.length n]] w fun e w' => ∃ Z : Value, e = .returned (Z) ∧ Kd.R (Kd.int .i64) 3 w' w.heap.size (fun _ => True) Z r ∧ Below w.heap.size w w' := by
 have aA := Try.underlying25; have I := am X; have J := am Y; clear X Y; have HB := am (Below.refl w.heap.size w)
 have H : ((some (([] : List Int) : List Int)).bind fun x => ((spec_NetOk.f k d a).bind fun y => (if y = true then (spec_WayParts.l0 k x 0 d a) else (some x)))) = some r := h
 clear h; obtain ⟨x, K⟩ : ∃ y_ : List Int, y_ = (([] : List Int)) := ⟨_, rfl⟩; replace H : ((spec_NetOk.f k d a).bind fun y => (if y = true then (spec_WayParts.l0 k x 0 d a) else (some x))) = some r := nh_ K H; have B := am K; clear K; obtain ⟨y, A2, H⟩ := bi_ H; by_cases D : y = true
 ·subst D; rw [if_pos rfl] at H; have H' := am H; clear H; go_enter Try.func69, Try.ntmps69
  go_wp2_with (first | ((with_reducible refine gate_dst (N := 1) rfl ?_); refine bx_ 1 #[.int .i64 d, .slice m a.length n] 25 HB ?_; clear HB; intro L hg w4 hb c aj HB; clear hb hg) | ((with_reducible refine gate_dst (N := 7) rfl ?_); refine Kd.R_lit (Kd.int .i64) _ 3 ?hg (N := 7) ?hd (xs := ([] : List Int)) (inner := []) (ok := fun _ => True) (okp := fun _ => True) ?hr ?hp (fun _ hk => hk) trivial (Below.refl _ _) (Nat.le_refl _) (by simp) ?_; (case hd => rfl); (case hg => rfl); (case hr => first | (go_simp; done) | (go_simp; rfl)); (case hp => exact (Reps.none _ _)); intro ak w5 z hb M O; clear M O; (first | rw [← B.out] at z | (simp only [Int.reduceToNat] at z; rw [← B.out] at z)); have o := am (Kd.R_lower z (below_size (bn HB))); replace c := bb c hb; replace HB := bs HB hb; clear hb z; have aa := c2 c) | ((with_reducible refine gate_callee (f := 11) rfl ?_); refine gl_ (some 9) Try.func11 #[.agg #[.int .i64 d, .slice m a.length n]] ?_; (with_reducible refine (spec_NetOk.calls k d _ _ a true _ ?z_1 ?z_2 A2.out).mono ?_); (case z_1 => exact cb I HB); (case z_2 => exact J.out); rintro e w8 ⟨rfl, hb⟩; refine ⟨_, rfl, ?_⟩; replace o := am (Kd.R_below (onR o) hb); replace c := bb c hb; replace HB := bs HB hb; (try clear hb)))
  go_loopg [3, 4] k (fun kq v3 v4 w' => ∃ (j : List Int) (i : Int), v4 = .int .i64 i ∧ Aside0 (spec_WayParts.l0 kq j i d a = some r) ∧ Aside0 (kq ≤ k) ∧ Aside0 (Kd.R (Kd.int .i64) 3 w' w.heap.size (fun _ => True) v3 j) ∧ Bk w' L (.cells #[.int .i64 d, (.slice m a.length n)] 25 (0, 0)) ∧ Aside0 (Below w.heap.size w w'))
  case atStart => exact ⟨(x), (0), rs_, H', ⟨Nat.le_refl _⟩, ⟨onR o⟩, ⟨bkn c⟩, ⟨bn HB⟩⟩
  case round =>
   clear H'; (try clear D aa); obtain ⟨j, i, rfl, HA, E, l, c, HB⟩ := hrel; cases gk with
   | zero => exact absurd HA.out (by simp [spec_WayParts.l0])
   | succ k1 =>
    have H := HA.out; clear HA; simp only [spec_WayParts.l0] at H; by_cases p : i < d
    ·rw [if_pos p] at H; have ab := decide_eq_true p; clear p; obtain ⟨q, al, H⟩ := bi_ H; have H' := am H; clear H; have an := c2 c
     go_wp2_with (first | ((with_reducible refine gate_callee (f := 33) rfl ?_); refine gl_ (some 20) Try.func33 #[.agg #[.int .i64 d, .slice m a.length n], .int .i64 i] ?_; (with_reducible refine (spec_WayReach.calls k1 d _ _ a i q _ ?z_1 ?z_2 al.out).mono ?_); (case z_1 => exact cb I HB); (case z_2 => exact J.out); rintro e w12 ⟨ap, rfl, ad, hb⟩; refine ⟨_, rfl, ?_⟩; replace l := am (Kd.R_below (onR l) hb); have aq := am (Kd.R_lower ad (below_size (bn HB))); replace c := bb c hb; replace HB := bs HB hb; (try clear hb ad)))
     go_loopg [6] k1 (fun kq v6 w' => ∃ (g : Int), v6 = .int .i64 g ∧ Aside0 (spec_WayParts.l1 kq j i q g d a = some r) ∧ Aside0 (kq ≤ k1) ∧ Aside0 (Kd.R (Kd.int .i64) 3 w' w.heap.size (fun _ => True) u3 j) ∧ Aside0 (Kd.R Kd.bool 4 w' w.heap.size (fun _ => True) ap q) ∧ Bk w' L (.cells #[.int .i64 d, (.slice m a.length n)] 25 (0, 0)) ∧ Aside0 (Below w.heap.size w w'))
     case atStart => exact ⟨(0), rs_, H', ⟨Nat.le_refl _⟩, ⟨onR l⟩, ⟨onR aq⟩, ⟨bkn c⟩, ⟨bn HB⟩⟩
     case round =>
      clear H'; (try clear D p ab an aa); obtain ⟨g, rfl, HA, G, l, s, c, HB⟩ := hrel; cases gk with
      | zero => exact absurd HA.out (by simp [spec_WayParts.l1])
      | succ k2 =>
       have H := HA.out; clear HA; simp only [spec_WayParts.l1] at H; obtain ⟨aC, H⟩ := id_ H; obtain ⟨aD, H⟩ := id_ H; obtain ⟨ae, P⟩ : ∃ b_ : Bool, b_ = (rdOf false q g) := ⟨_, rfl⟩; replace H : (if ae = true then (if j.length < 17592186044416 then (spec_WayParts.l0 k2 (j ++ [g]) (wrap64 (i + 1)) d a) else (none)) else (spec_WayParts.l1 k2 j i q (wrap64 (g + 1)) d a)) = some r := by rw [← P] at H; exact H
       have af := am P; clear P; by_cases ag : ae = true
       ·subst ag; rw [if_pos rfl] at H; obtain ⟨ah, H⟩ := ig_ H; have ar := am ah; clear ah; obtain ⟨ai, T⟩ : ∃ y_ : List Int, y_ = (j ++ [g]) := ⟨_, rfl⟩; replace H : (spec_WayParts.l0 k2 ai (wrap64 (i + 1)) d a) = some r := nh_ T H; have au := am T; clear T; have H' := am H; clear H; obtain ⟨aE, aG, av⟩ := Kd.R_slice s.out; subst av; have t : 0 ≤ (g : Int) := oa; have u : g < (q.length : Int) := oa; obtain ⟨aw, U, W⟩ := Kd.at_bool (Kd.R_reads' s.out).2.2 g t u; (try rw [← af.out] at W); cases U; obtain ⟨t, u⟩ := e2_ t u
        go_wp2_with (first | ((with_reducible refine gate_builtin (b := .append) (xs := #[.tmp 28, .tmp 30]) rfl ?_); at_builtin; refine Kd.R_append (Kd.int .i64) (w0 := w) w.heap.size rfl (.tmp 28) (.tmp 30) 39 3 (.int .i64 0) 8 rfl Try.underlying39 info3 rfl (by decide) (by omega) u3 j g [.int .i64 g] (fun _ => True) (fun _ => False) rfl rfl ?aP (fun _ hk => hk.elim) ?aF ?aO ?aB ?aS ?aL ?_; (case aP => exact rfl); (case aB => exact (bn HB)); (case aF => exact (fun _ _ => trivial)); (case aO => exact (onR l)); (case aS => exact (below_size (bn HB))); (case aL => have := ar.out; omega); intro aH w19 ho hb hg ax; rw [← au.out] at ho; replace s := am (Kd.R_over' (onR s) (Kd.R_typed (onR l)) (by decide) hg); replace c := bm (blk_grown (bkn c) hg (Kd.R_ne l.out c.out (by decide))); replace HB := am hb; have ay := am ho; clear l; clear ho hb hg ax))
        go_roundg k2
        case measure => have := E.out; have := G.out; omega
        case rel => exact ⟨(ai), (wrap64 (i + 1)), rs_, H', ⟨by have := E.out; have := G.out; omega⟩, ⟨onR ay⟩, ⟨bkn c⟩, ⟨bn HB⟩⟩
       ·obtain rfl := nt_ ag; rw [if_neg nf_] at H; have H' := am H; clear H; obtain ⟨aI, aJ, az⟩ := Kd.R_slice s.out; subst az; have t : 0 ≤ (g : Int) := oa; have u : g < (q.length : Int) := oa; obtain ⟨aw, U, W⟩ := Kd.at_bool (Kd.R_reads' s.out).2.2 g t u; (try rw [← af.out] at W); cases U; obtain ⟨t, u⟩ := e2_ t u; go_wp2
        go_roundg k2
        case measure => have := E.out; have := G.out; omega
        case rel => exact ⟨(wrap64 (g + 1)), rs_, H', ⟨by have := E.out; have := G.out; omega⟩, ⟨onR l⟩, ⟨onR s⟩, ⟨bkn c⟩, ⟨bn HB⟩⟩
    ·rw [if_neg p] at H; have ab := decide_eq_false p; clear p; obtain rfl := Option.some.inj H; have aK := c2 c; go_wp2
     go_ret
     exact ⟨_, er_, onR l, bn HB⟩
 ·obtain rfl := nt_ D; rw [if_neg nf_] at H; obtain rfl := Option.some.inj H; go_enter Try.func69, Try.ntmps69
  go_wp2_with (first | ((with_reducible refine gate_dst (N := 1) rfl ?_); refine bx_ 1 #[.int .i64 d, .slice m a.length n] 25 HB ?_; clear HB; intro L hg w22 hb c aj HB; clear hb hg) | ((with_reducible refine gate_dst (N := 7) rfl ?_); refine Kd.R_lit (Kd.int .i64) _ 3 ?hg (N := 7) ?hd (xs := ([] : List Int)) (inner := []) (ok := fun _ => True) (okp := fun _ => True) ?hr ?hp (fun _ hk => hk) trivial (Below.refl _ _) (Nat.le_refl _) (by simp) ?_; (case hd => rfl); (case hg => rfl); (case hr => first | (go_simp; done) | (go_simp; rfl)); (case hp => exact (Reps.none _ _)); intro ak w23 A hb M O; clear M O; (first | rw [← B.out] at A | (simp only [Int.reduceToNat] at A; rw [← B.out] at A)); have o := am (Kd.R_lower A (below_size (bn HB))); replace c := bb c hb; replace HB := bs HB hb; clear hb A; have aM := c2 c) | ((with_reducible refine gate_callee (f := 11) rfl ?_); refine gl_ (some 9) Try.func11 #[.agg #[.int .i64 d, .slice m a.length n]] ?_; (with_reducible refine (spec_NetOk.calls k d _ _ a false _ ?z_1 ?z_2 A2.out).mono ?_); (case z_1 => exact cb I HB); (case z_2 => exact J.out); rintro e w26 ⟨rfl, hb⟩; refine ⟨_, rfl, ?_⟩; replace o := am (Kd.R_below (onR o) hb); replace c := bb c hb; replace HB := bs HB hb; (try clear hb)))
  go_ret
  exact ⟨_, er_, onR o, bn HB⟩

/-! ### spec_WayCount: function 53 -/
def spec_WayCount.l0 : Nat → List Int → Int → Int → Option (Int)
 | 0, _, _, _ => none
 | k + 1, x3, x4, x5 => if x5 < (x3.length : Int) then (if 0 ≤ x5 then (if (rd x3 x5) = x5 then (spec_WayCount.l0 k x3 (wrap64 (x4 + 1)) (wrap64 (x5 + 1))) else (spec_WayCount.l0 k x3 x4 (wrap64 (x5 + 1)))) else (none)) else (some x4)
def spec_WayCount.f (k : Nat) (a0_0 : Int) (l0_1 : List (S44)) : Option (Int) := (spec_NetOk.f k a0_0 l0_1).bind fun t686 => (if t686 = true then ((spec_WayParts.f k a0_0 l0_1).bind fun t687 => (spec_WayCount.l0 k t687 0 0)) else (some (-1)))
theorem spec_WayCount.mono_l : ∀ k, (∀ a b c, LeO (spec_WayCount.l0 k a b c) (spec_WayCount.l0 (k + 1) a b c))
 | 0 => fun _ _ _ r h => by simp [spec_WayCount.l0] at h
 | k + 1 => by
  have ih0 := spec_WayCount.mono_l k
  ·intro a b c; unfold spec_WayCount.l0; have m0_ := @spec_NetOk.mono; have m1_ := @spec_WayParts.mono; exact mo_
theorem spec_WayCount.mono : ∀ a b k, LeO (spec_WayCount.f k a b) (spec_WayCount.f (k + 1) a b) := by
 intro a b k; have ih0 := spec_WayCount.mono_l k; unfold spec_WayCount.f; have m0_ := @spec_NetOk.mono; have m1_ := @spec_WayParts.mono; exact mo_
set_option maxHeartbeats 8000000 in
set_option maxRecDepth 100000 in
theorem spec_WayCount.calls (k : Nat) (d : Int) (i : Option Addr) (j : Nat) (b : List (S44)) (r : Int) (w : World) (A : Kd.C k44 w i b.length b) (B : b.length ≤ j) (h : spec_WayCount.f k d b = some r) :
  Calls Try.prog 53 #[.agg #[.int .i64 d, .slice i b.length j]] w fun e w' => e = .returned (.int .i64 r) ∧ Below w.heap.size w w' := by
 have ae := Try.underlying25; have t := am A; have u := am B; clear A B; have HB := am (Below.refl w.heap.size w)
 have H : ((spec_NetOk.f k d b).bind fun x => (if x = true then ((spec_WayParts.f k d b).bind fun g => (spec_WayCount.l0 k g 0 0)) else (some (-1)))) = some r := h
 clear h; obtain ⟨x, D, H⟩ := bi_ H; by_cases y : x = true
 ·subst y; rw [if_pos rfl] at H; obtain ⟨g, I, H⟩ := bi_ H; have H' := am H; clear H; go_enter Try.func53, Try.ntmps53
  go_wp2_with (first | ((with_reducible refine gate_dst (N := 1) rfl ?_); refine bx_ 1 #[.int .i64 d, .slice i b.length j] 25 HB ?_; clear HB; intro E hg w5 hb c J HB; clear hb hg; have K := c2 c) | ((with_reducible refine gate_callee (f := 11) rfl ?_); refine gl_ (some 7) Try.func11 #[.agg #[.int .i64 d, .slice i b.length j]] ?_; (with_reducible refine (spec_NetOk.calls k d _ _ b true _ ?z_1 ?z_2 D.out).mono ?_); (case z_1 => exact cb t HB); (case z_2 => exact u.out); rintro e w7 ⟨rfl, hb⟩; refine ⟨_, rfl, ?_⟩; replace c := bb c hb; replace HB := bs HB hb; (try clear hb); have L := c2 c) | ((with_reducible refine gate_callee (f := 69) rfl ?_); refine gl_ (some 10) Try.func69 #[.agg #[.int .i64 d, .slice i b.length j]] ?_; (with_reducible refine (spec_WayParts.calls k d _ _ b g _ ?z_1 ?z_2 I.out).mono ?_); (case z_1 => exact cb t HB); (case z_2 => exact u.out); rintro e w9 ⟨M, rfl, G, hb⟩; refine ⟨_, rfl, ?_⟩; have O := am (Kd.R_lower G (below_size (bn HB))); replace c := bb c hb; replace HB := bs HB hb; (try clear hb G)))
  go_loopg [4, 5] k (fun kq P T w' => ∃ (q : Int) (a : Int), P = .int .i64 q ∧ T = .int .i64 a ∧ Aside0 (spec_WayCount.l0 kq g q a = some r) ∧ Aside0 (kq ≤ k) ∧ Aside0 (Kd.R (Kd.int .i64) 3 w' w.heap.size (fun _ => True) M g) ∧ Bk w' E (.cells #[.int .i64 d, (.slice i b.length j)] 25 (0, 0)) ∧ Aside0 (Below w.heap.size w w'))
  case atStart => exact ⟨(0), (0), rs_, rs_, H', ⟨Nat.le_refl _⟩, ⟨onR O⟩, ⟨bkn c⟩, ⟨bn HB⟩⟩
  case round =>
   clear H'; (try clear y K L); obtain ⟨q, a, rfl, rfl, HA, s, l, c, HB⟩ := hrel; cases gk with
   | zero => exact absurd HA.out (by simp [spec_WayCount.l0])
   | succ k1 =>
    have H := HA.out; clear HA; simp only [spec_WayCount.l0] at H; by_cases p : a < (g.length : Int)
    ·rw [if_pos p] at H; have U := decide_eq_true p; clear p; obtain ⟨af, H⟩ := id_ H; by_cases m : (rd g a) = a
     ·rw [if_pos m] at H; have W : ((rd g a) == a) = true := beq_iff_eq.mpr m; have X : ((rd g a) != a) = false := bne_eq_false_iff_eq.mpr m; clear m; have H' := am H; clear H; obtain ⟨ag, ah, Y⟩ := Kd.R_slice l.out; subst Y; have n : 0 ≤ (a : Int) := oa; have o : a < (g.length : Int) := oa; obtain ⟨Z, z, aa⟩ := Kd.at_int (Kd.R_reads' l.out).2.2 a n o; cases z; obtain ⟨n, o⟩ := e2_ n o; go_wp2
      go_roundg k1
      case measure => have := s.out; omega
      case rel => exact ⟨(wrap64 (q + 1)), (wrap64 (a + 1)), rs_, rs_, H', ⟨by have := s.out; omega⟩, ⟨onR l⟩, ⟨bkn c⟩, ⟨bn HB⟩⟩
     ·rw [if_neg m] at H; have W : ((rd g a) == a) = false := beq_eq_false_iff_ne.mpr m; have X : ((rd g a) != a) = true := bne_iff_ne.mpr m; have H' := am H; clear H; obtain ⟨ai, aj, ab⟩ := Kd.R_slice l.out; subst ab; have n : 0 ≤ (a : Int) := oa; have o : a < (g.length : Int) := oa; obtain ⟨Z, z, aa⟩ := Kd.at_int (Kd.R_reads' l.out).2.2 a n o; cases z; obtain ⟨n, o⟩ := e2_ n o; go_wp2
      go_roundg k1
      case measure => have := s.out; omega
      case rel => exact ⟨(q), (wrap64 (a + 1)), rs_, rs_, H', ⟨by have := s.out; omega⟩, ⟨onR l⟩, ⟨bkn c⟩, ⟨bn HB⟩⟩
    ·rw [if_neg p] at H; have U := decide_eq_false p; clear p; obtain rfl := Option.some.inj H; obtain ⟨ak, al, ad⟩ := Kd.R_slice l.out; subst ad; go_wp2
     go_ret
     exact ⟨er_, bn HB⟩
 ·obtain rfl := nt_ y; rw [if_neg nf_] at H; obtain rfl := Option.some.inj H; go_enter Try.func53, Try.ntmps53
  go_wp2_with (first | ((with_reducible refine gate_dst (N := 1) rfl ?_); refine bx_ 1 #[.int .i64 d, .slice i b.length j] 25 HB ?_; clear HB; intro E hg w16 hb c J HB; clear hb hg; have an := c2 c) | ((with_reducible refine gate_callee (f := 11) rfl ?_); refine gl_ (some 7) Try.func11 #[.agg #[.int .i64 d, .slice i b.length j]] ?_; (with_reducible refine (spec_NetOk.calls k d _ _ b false _ ?z_1 ?z_2 D.out).mono ?_); (case z_1 => exact cb t HB); (case z_2 => exact u.out); rintro e w18 ⟨rfl, hb⟩; refine ⟨_, rfl, ?_⟩; replace c := bb c hb; replace HB := bs HB hb; (try clear hb)))
  go_ret
  exact ⟨er_, bn HB⟩

/-! ### spec_BridgeIs: function 22 -/
def spec_BridgeIs.f (k : Nat) (a0_0 : Int) (l0_1 : List (S44)) (a1 : Int) (a2 : Int) : Option (Bool) := (spec_NetCut.f k a0_0 l0_1 a1 a2).bind fun bt692 => (if bt692.2.2 = true then ((spec_WayCount.f k bt692.1 bt692.2.1).bind fun t698 => ((spec_WayCount.f k a0_0 l0_1).bind fun t699 => (some (decide (t698 > t699))))) else (some false))
theorem spec_BridgeIs.mono : ∀ a b c d k, LeO (spec_BridgeIs.f k a b c d) (spec_BridgeIs.f (k + 1) a b c d) := by
 intro a b c d k; unfold spec_BridgeIs.f; have m0_ := @spec_NetCut.mono; have m1_ := @spec_WayCount.mono; exact mo_
def spec_BridgeIs.T2 : Bool × List (List Nat × List Nat) := (true, [([], []), ([0], [0]), ([1], [1]), ([2, 1, 1], [1, 2]), ([1], [1]), ([4, 3, 1], [1, 4]), ([3, 5, 1], [1, 3, 5]), ([1, 6], [1, 6]), ([7, 5, 0, 1, 2, 3, 4, 5, 6, 7], [7])])
def spec_BridgeIs.B2 : List Nat := [0, 1, 3, 7, 3, 31, 63, 127, 255]
theorem spec_BridgeIs.tab2 : rtab .any (opsOf Try.f22 2) = spec_BridgeIs.T2 := by kernel_rfl
theorem spec_BridgeIs.bits2 : waitsOk spec_BridgeIs.T2.2 spec_BridgeIs.B2 = true := by kernel_rfl
set_option maxHeartbeats 8000000 in
set_option maxRecDepth 100000 in
theorem spec_BridgeIs.calls (k : Nat) (j : Int) (m : Option Addr) (n : Nat) (g : List (S44)) (o : Int) (p : Int) (r : Bool) (w : World) (L : Kd.C k44 w m g.length g) (M : g.length ≤ n) (h : spec_BridgeIs.f k j g o p = some r) :
  Calls Try.prog 22 #[.agg #[.int .i64 j, .slice m g.length n], .int .i64 o, .int .i64 p] w fun e w' => e = .returned (.bool r) ∧ Below w.heap.size w w' := by
 have aj := Try.underlying25; have x := am L; have y := am M; clear L M; have HB := am (Below.refl w.heap.size w)
 have H : ((spec_NetCut.f k j g o p).bind fun z => (if z.2.2 = true then ((spec_WayCount.f k z.1 z.2.1).bind fun A => ((spec_WayCount.f k j g).bind fun B => (some (decide (A > B))))) else (some false))) = some r := h
 clear h; obtain ⟨⟨s, l, Y⟩, O, H⟩ := bi_ H; (try dsimp only at H); by_cases P : Y = true
 ·subst P; rw [if_pos rfl] at H; obtain ⟨A, Z, H⟩ := bi_ H; obtain ⟨B, A7, H⟩ := bi_ H; obtain rfl := Option.some.inj H; go_enter Try.func22, Try.ntmps22
  try go_wp2_with (first | ((with_reducible refine gate_dst (N := 3) rfl ?_); refine bx_ 3 #[.int .i64 j, .slice m g.length n] 25 HB ?_; clear HB; intro aa hg w8 hb a ab HB; clear hb hg; have ak := c2 a) | ((with_reducible refine gate_callee (f := 52) rfl ?_); refine gl_ (some 13) Try.func52 #[.agg #[.int .i64 j, .slice m g.length n], .int .i64 o, .int .i64 p] ?_; (with_reducible refine (spec_NetCut.calls k j _ _ g o p s l true _ ?z_1 ?z_2 O.out).mono ?_); (case z_1 => exact cb x HB); (case z_2 => exact y.out); rintro e w10 ⟨ad, rfl, t, hb⟩; refine ⟨_, rfl, ?_⟩; have b := am (Kd.R_lower t (below_size (bn HB))); replace a := bb a hb; replace HB := bs HB hb; (try clear hb t)) | ((with_reducible refine gate_dst (N := 7) rfl ?_); refine bx_ 7 #[.int .i64 0, .slice none 0 0] 25 HB ?_; clear HB; intro u hg ae hb d af HB; replace b := am (Kd.R_below (onR b) hb); obtain ⟨D, E⟩ := nb_ hg a; replace a := bb a hb; clear hb hg; have al := n2 E D; have an := c2 d; obtain ⟨G, I, ag⟩ := Kd.R_slice b.out; subst ag))
  obtain ⟨T, i⟩ := nw_ ((ae.setCell ⟨u, 0, none⟩ (.int .i64 s)).setCell ⟨u, 1, none⟩ (.slice G l.length I)); replace b : Aside0 (Kd.R k44 44 T w.heap.size (fun _ => True) (.slice G l.length I) l) := (by rw [i]; exact ⟨Kd.R_mono (onR b) (fun _ hk => trivial)⟩); replace b := dR b; replace a := tD i a; replace d := tD i d; replace HB := tM i HB; rw [← i]; clear i; refine s4_ 9 [] (bq d 0) (bq d 1) (bq a 0) (bq a 1) (fun q => ?_); refine with_tabW spec_BridgeIs.tab2 spec_BridgeIs.bits2 (fun c J => ?_); generalize T.drew = w16 at b a d HB q ⊢; refine pz_ 0 c ?_; refine pz_ 1 c ?_; refine tz_ 2 c J q ?_; refine tz_ 4 c J q ?_; refine on_ 3 c (fun K hK => ?_); refine gg_ Try.func53 #[.agg #[.int .i64 s, .slice G l.length I]] ?_
  with_reducible refine (spec_WayCount.calls k s _ _ l A _ ?z_1 ?z_2 Z.out).mono ?_
  (case z_1 => exact (Kd.R_reads' (onR b)).2.2); (case z_2 => exact (Kd.R_reads' b.out).2.1); rintro e w17 ⟨rfl, hb⟩; refine ⟨_, rfl, ?_⟩; replace b := am (Kd.R_below (onR b) hb); replace a := bb a hb; replace d := bb d hb; replace HB := bs HB hb; (try clear hb hk); refine hK.out _ _ ⟨(bc d 0), (bc d 1), (bc a 0), (bc a 1)⟩ (fun q => ?_); clear hK K; refine nz_ 19 ?_; refine on_ 5 c (fun K hK => ?_); refine gg_ Try.func53 #[.agg #[.int .i64 j, .slice m g.length n]] ?_
  with_reducible refine (spec_WayCount.calls k j _ _ g B _ ?z_1 ?z_2 A7.out).mono ?_
  (case z_1 => exact cb x HB); (case z_2 => exact y.out); rintro e w18 ⟨rfl, hb⟩; refine ⟨_, rfl, ?_⟩; replace b := am (Kd.R_below (onR b) hb); replace a := bb a hb; replace d := bb d hb; replace HB := bs HB hb; (try clear hb hk); refine hK.out _ _ ⟨(bc d 0), (bc d 1), (bc a 0), (bc a 1)⟩ (fun q => ?_); clear hK K; refine nz_ 21 ?_; refine pz_ 6 c ?_; refine pz_ 7 c ?_; refine pz_ 8 c ?_; refine done_ (done_of c.out (by kernel_rfl)) ?_; try go_wp2
  go_ret
  exact ⟨er_, bn HB⟩
 ·obtain rfl := nt_ P; rw [if_neg nf_] at H; obtain rfl := Option.some.inj H; go_enter Try.func22, Try.ntmps22
  try go_wp2_with (first | ((with_reducible refine gate_dst (N := 3) rfl ?_); refine bx_ 3 #[.int .i64 j, .slice m g.length n] 25 HB ?_; clear HB; intro aa hg w19 hb a ab HB; clear hb hg; have ap := c2 a) | ((with_reducible refine gate_callee (f := 52) rfl ?_); refine gl_ (some 13) Try.func52 #[.agg #[.int .i64 j, .slice m g.length n], .int .i64 o, .int .i64 p] ?_; (with_reducible refine (spec_NetCut.calls k j _ _ g o p s l false _ ?z_1 ?z_2 O.out).mono ?_); (case z_1 => exact cb x HB); (case z_2 => exact y.out); rintro e w21 ⟨ad, rfl, t, hb⟩; refine ⟨_, rfl, ?_⟩; have b := am (Kd.R_lower t (below_size (bn HB))); replace a := bb a hb; replace HB := bs HB hb; (try clear hb t)) | ((with_reducible refine gate_dst (N := 7) rfl ?_); refine bx_ 7 #[.int .i64 0, .slice none 0 0] 25 HB ?_; clear HB; intro u hg ah hb d af HB; replace b := am (Kd.R_below (onR b) hb); obtain ⟨D, E⟩ := nb_ hg a; replace a := bb a hb; clear hb hg; have aq := n2 E D; have ar := c2 d; obtain ⟨U, W, ai⟩ := Kd.R_slice b.out; subst ai))
  obtain ⟨X, i⟩ := nw_ ((ah.setCell ⟨u, 0, none⟩ (.int .i64 s)).setCell ⟨u, 1, none⟩ (.slice U l.length W)); replace b : Aside0 (Kd.R k44 44 X w.heap.size (fun _ => True) (.slice U l.length W) l) := (by rw [i]; exact ⟨Kd.R_mono (onR b) (fun _ hk => trivial)⟩); replace b := dR b; replace a := tD i a; replace d := tD i d; replace HB := tM i HB; rw [← i]; clear i; refine st_ 9 (S := fun w' => True) (ds := []) trivial (fun q => ?_); refine with_tabW spec_BridgeIs.tab2 spec_BridgeIs.bits2 (fun c J => ?_); generalize X.drew = w27 at b a d HB q ⊢; refine pz_ 0 c ?_; refine pz_ 1 c ?_; refine pu_ 2 c ?_; refine pu_ 3 c ?_; refine pu_ 4 c ?_; refine pu_ 5 c ?_; refine pu_ 6 c ?_; refine pz_ 7 c ?_; refine pz_ 8 c ?_; refine done_ (done_of c.out (by kernel_rfl)) ?_; try go_wp2
  go_ret
  exact ⟨er_, bn HB⟩

end Go.Proofs.Ytlddkafpbhjpdaa.F
