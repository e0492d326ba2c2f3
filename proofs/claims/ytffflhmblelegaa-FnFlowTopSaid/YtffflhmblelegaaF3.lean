-- By oprint.py.
import Derived.Test.YtffflhmblelegaaF0
import Derived.Test.YtffflhmblelegaaF2
namespace Go.Proofs.Ytffflhmblelegaa.F
open Go.RowKit Go.Proofs.YtffflhmblelegaaW.PrintWords Go.Proofs.YtffflhmblelegaaW.PrintLast Go.Proofs.YtffflhmblelegaaW.PrintMore
attribute [local go_sem] max2_int min2_int max_two min_two max_three min_three max_four min_four
set_option linter.unusedVariables false
set_option linter.unusedSimpArgs false
/-! ### spec_NetOk: function 31 -/
mutual
def spec_NetOk.j0 : Nat → Bool → Int → List (S52) → Option (Bool)
 | 0, _, _, _ => none
 | k + 1, x14, x104000, x104001 => if x14 = true then (some false) else (spec_NetOk.l0 k 0 x104000 x104001)
def spec_NetOk.l0 : Nat → Int → Int → List (S52) → Option (Bool)
 | 0, _, _, _ => none
 | k + 1, x3, x104000, x104001 => if x3 < (x104001.length : Int) then (if 0 ≤ x3 then ((spec_l6In.f ((rd_T52 x104001 x3).f0) 0 (wrap64 (x104000 - 1))).bind fun t107 => (if t107 = true then ((spec_l6In.f ((rd_T52 x104001 x3).f1) (wrap64 (((rd_T52 x104001 x3).f0) + 1)) (wrap64 (x104000 - 1))).bind fun t108 => (if t108 = true then (if x3 > 0 then (if 0 ≤ (wrap64 (x3 - 1)) then (if (wrap64 (x3 - 1)) < (x104001.length : Int) then ((spec_l1Less.f ((rd_T52 x104001 (wrap64 (x3 - 1))).f0) ((rd_T52 x104001 (wrap64 (x3 - 1))).f1) ((rd_T52 x104001 x3).f0) ((rd_T52 x104001 x3).f1)).bind fun t110 => (if t110 = true then (spec_NetOk.l0 k (wrap64 (x3 + 1)) x104000 x104001) else (some false))) else (none)) else (none)) else (spec_NetOk.l0 k (wrap64 (x3 + 1)) x104000 x104001)) else (some false))) else (some false))) else (none)) else (some true)
end
def spec_NetOk.f (k : Nat) (a0_0 : Int) (l0_1 : List (S52)) : Option (Bool) := (spec_l6In.f a0_0 0 8).bind fun t104 => (if t104 = true then (spec_NetOk.j0 k (decide ((l0_1.length : Int) > 64)) a0_0 l0_1) else (spec_NetOk.j0 k true a0_0 l0_1))
def spec_NetOk.T7 : Bool × List (List Nat × List Nat) := (true, [([], []), ([0], [0]), ([], []), ([2], [2]), ([3], [3]), ([1, 4], [1, 4]), ([5], [5]), ([6, 5], [6]), ([7], [7]), ([8, 7], [7, 8]), ([7], [7]), ([10, 7], [7, 10]), ([11, 7], [7, 11]), ([7], [7]), ([13, 7], [7, 13]), ([14, 7], [7, 14]), ([9, 12, 15, 7, 7], [7, 9, 12, 15]), ([16, 7], [7, 16]), ([7, 17], [7, 17]), ([18, 16], [18]), ([19], [19]), ([20, 19], [19, 20]), ([21, 19, 19], [19, 21]), ([22], [22]), ([23, 22], [22, 23]), ([22], [22]), ([25, 22], [22, 25]), ([24, 26, 22], [22, 24, 26]), ([27, 22], [22, 27]), ([22], [22]), ([28, 29, 22, 22], [22, 28, 29]), ([30, 22], [22, 30]), ([22, 31, 19], [19, 22, 31]), ([19, 32], [19, 32])])
def spec_NetOk.B7 : List Nat := [0, 1, 0, 4, 12, 31, 63, 127, 255, 511, 255, 1279, 3327, 255, 8447, 24831, 65535, 131071, 262143, 524287, 1048575, 2097151, 4194303, 8388607, 16777215, 8388607, 41943039, 134217727, 268435455, 8388607, 1073741823, 2147483647, 4294967295, 8589934591]
theorem spec_NetOk.tab7 : rtab .any (opsOf Try.f31 7) = spec_NetOk.T7 := by kernel_rfl
theorem spec_NetOk.bits7 : waitsOk spec_NetOk.T7.2 spec_NetOk.B7 = true := by kernel_rfl
set_option maxHeartbeats 8000000 in
set_option maxRecDepth 100000 in
theorem spec_NetOk.calls (k : Nat) (j : Int) (T : Option Addr) (U : Nat) (c : List (S52)) (r : Bool) (w : World) (ai : Kd.C k52 w T c.length c) (aj : c.length ≤ U) (h : spec_NetOk.f k j c = some r) :
  Calls Try.prog 31 #[.agg #[.int .i64 j, .slice T c.length U]] w fun e w' => e = .returned (.bool r) ∧ Below w.heap.size w w' := by
 have aK := Try.underlying25; have aL := Try.underlying52; have G := am ai; have aM := am aj; clear ai aj; have HB := am (Below.refl w.heap.size w)
 have H : ((spec_l6In.f j 0 8).bind fun ad => (if ad = true then (spec_NetOk.j0 k (decide ((c.length : Int) > 64)) j c) else (spec_NetOk.j0 k true j c))) = some r := h
 clear h; have ae := am H; clear H; go_enter Try.func31, Try.ntmps31
 go_upto_region 1 with (first | ((with_reducible refine gate_dst (N := 1) rfl ?_); refine bx_ 1 #[.int .i64 j, .slice T c.length U] 25 HB ?_; clear HB; intro ak hg w3 hb b aN HB; clear hb hg))
 (try simp only [Act.put, List.setIfInBounds_toArray, List.set_cons_zero, List.set_cons_succ])
 go_cut [14] (fun av wc => ∃ (kq : Nat) (X : Bool), av = .bool X ∧ Aside0 (spec_NetOk.j0 kq X j c = some r) ∧ Aside0 (kq ≤ k) ∧ Bk wc ak (.cells #[.int .i64 j, (.slice T c.length U)] 25 (0, 0)) ∧ Aside0 (Below w.heap.size w wc))
 case first =>
  have H := ae.out; clear ae; obtain ⟨ad, A4, H⟩ := bi_ H; by_cases Y : ad = true
  ·subst Y; rw [if_pos rfl] at H; have H' := am H; clear H; have al := c2 b
   go_wp2_with (first | ((with_reducible refine gate_callee (f := 74) rfl ?_); refine gl_ (some 7) Try.func74 #[.int .i64 j, .int .i64 0, .int .i64 8] ?_; (with_reducible refine (spec_l6In.calls j 0 8 true _ A4.out).mono ?_); rintro e w' ⟨rfl, ⟨nd, rfl⟩⟩; refine ⟨_, rfl, ?_⟩))
   go_meet
   case rel => exact ⟨_, (decide ((c.length : Int) > 64)), rs_, H', ⟨by first | omega | exact Nat.le_refl _⟩, ⟨bkn b⟩, ⟨bn HB⟩⟩
  ·obtain rfl := nt_ Y; rw [if_neg nf_] at H; have H' := am H; clear H; have an := c2 b
   go_wp2_with (first | ((with_reducible refine gate_callee (f := 74) rfl ?_); refine gl_ (some 7) Try.func74 #[.int .i64 j, .int .i64 0, .int .i64 8] ?_; (with_reducible refine (spec_l6In.calls j 0 8 false _ A4.out).mono ?_); rintro e w' ⟨rfl, ⟨nd, rfl⟩⟩; refine ⟨_, rfl, ?_⟩))
   go_meet
   case rel => exact ⟨_, (true), rs_, H', ⟨by first | omega | exact Nat.le_refl _⟩, ⟨bkn b⟩, ⟨bn HB⟩⟩
 case rest =>
  clear ae; (try clear Y al an); obtain ⟨kq, X, rfl, HA, Z, b, HB⟩ := hcut; cases kq with
  | zero => exact absurd HA.out (by simp [spec_NetOk.j0])
  | succ kj1 =>
   have H := HA.out; clear HA; simp only [spec_NetOk.j0] at H; by_cases c8 : X = true
   ·subst c8; rw [if_pos rfl] at H; obtain rfl := Option.some.inj H; go_wp2
    go_ret
    exact ⟨er_, bn HB⟩
   ·obtain rfl := nt_ c8; rw [if_neg nf_] at H; have H' := am H; clear H; go_wp2
    go_loopg [3] kj1 (fun kq v3 w' => ∃ (d : Int), v3 = .int .i64 d ∧ Aside0 (spec_NetOk.l0 kq d j c = some r) ∧ Aside0 (kq ≤ kj1) ∧ Bk w' ak (.cells #[.int .i64 j, (.slice T c.length U)] 25 (0, 0)) ∧ Aside0 (Below w.heap.size w w'))
    case atStart => exact ⟨(0), rs_, H', ⟨Nat.le_refl _⟩, ⟨bkn b⟩, ⟨bn HB⟩⟩
    case round =>
     clear H'; (try clear Y c8 al an); obtain ⟨d, rfl, HA, aa, b, HB⟩ := hrel; cases gk with
     | zero => exact absurd HA.out (by simp [spec_NetOk.l0])
     | succ k2 =>
      have H := HA.out; clear HA; simp only [spec_NetOk.l0] at H; by_cases L : d < (c.length : Int)
      ·rw [if_pos L] at H; have aw := decide_eq_true L; clear L; obtain ⟨aO, H⟩ := id_ H; obtain ⟨ax, M, H⟩ := bi_ H; by_cases ap : ax = true
       ·subst ap; rw [if_pos rfl] at H; obtain ⟨ay, W, H⟩ := bi_ H; by_cases aq : ay = true
        ·subst aq; rw [if_pos rfl] at H; by_cases O : d > 0
         ·rw [if_pos O] at H; have az := decide_eq_true O; clear O; obtain ⟨n, E⟩ : ∃ j_ : Int, (wrap64 (d - 1)) = j_ := ⟨_, rfl⟩; replace H : (if 0 ≤ (n) then (if (n) < (c.length : Int) then ((spec_l1Less.f ((rd_T52 c (n)).f0) ((rd_T52 c (n)).f1) ((rd_T52 c d).f0) ((rd_T52 c d).f1)).bind fun af => (if af = true then (spec_NetOk.l0 k2 (wrap64 (d + 1)) j c) else (some false))) else (none)) else (none)) = some r := by first | (rw [E] at H; exact H) | (simp only [E] at H ⊢; exact H)
          (try rw [E] at M); (try rw [E] at W); have hji16w : (IntKind.i64.wrap (d - 1)) = n := (i64_w _).trans E; obtain ⟨aP, H⟩ := id_ H; obtain ⟨aQ, H⟩ := id_ H; obtain ⟨af, ar, H⟩ := bi_ H; by_cases au : af = true
          ·subst au; rw [if_pos rfl] at H; have H' := am H; clear H; have aR := c2 b; have o : 0 ≤ (d : Int) := oa; have p : d < (c.length : Int) := oa; obtain ⟨P, u, q, s⟩ := at_T52 G.out d o p; cases u; replace q := hc_ HB q; replace s := hc_ HB s; obtain ⟨o, p⟩ := e2_ o p
           try go_wp2_with (first | ((with_reducible refine gate_dst (N := 4) rfl ?_); refine bx_ 4 #[.int .i64 0, .int .i64 0] 52 HB ?_; clear HB; intro t hg aA hb g ab HB; obtain ⟨x, y⟩ := nb_ hg b; replace b := bb b hb; clear hb hg; have aS := n2 y x; have aT := c2 g))
           obtain ⟨aB, m⟩ := nw_ ((aA.setCell ⟨t, 0, none⟩ (.int .i64 ((rd_T52 c d).f0))).setCell ⟨t, 1, none⟩ (.int .i64 ((rd_T52 c d).f1))); replace b := tD m b; replace g := tD m g; replace HB := tM m HB; rw [← m]; clear m; have I : 0 ≤ ((n) : Int) := oa; have J : (n) < (c.length : Int) := oa; obtain ⟨ag, ah, z, A⟩ := at_T52 G.out (n) I J; have B := A; have D := z; obtain rfl : P = ag := (by injection ah); replace z := hc_ HB z; replace A := hc_ HB A; obtain ⟨I, J⟩ := e2_ I J; refine s6_ 34 [] (bq g 0) (bq g 1) (bq b 0) (bq b 1) (hb_ HB D) (hb_ HB B) (fun i => ?_); refine with_tabW spec_NetOk.tab7 spec_NetOk.bits7 (fun a l => ?_); generalize aB.drew = w26 at b g HB z A i ⊢; refine pz_ 0 a ?_; refine pz_ 2 a ?_; refine tz_ 1 a l i ?_; refine tz_ 3 a l i ?_; refine pz_ 4 a ?_; refine on_ 5 a (fun K hK => ?_); refine gg_ Try.func74 #[.int .i64 ((rd_T52 c d).f0), .int .i64 0, .int .i64 (wrap64 (j - 1))] ?_
           with_reducible refine (spec_l6In.calls ((rd_T52 c d).f0) 0 (wrap64 (j - 1)) true _ M.out).mono ?_
           rintro e w' ⟨rfl, ⟨nd, rfl⟩⟩; refine ⟨_, rfl, ?_⟩; refine hK.out _ _ ⟨(bc g 0), (bc g 1), (bc b 0), (bc b 1), (hb_ HB D), (hb_ HB B)⟩ (fun i => ?_); clear hK K; refine nz_ 32 ?_; refine pz_ 6 a ?_; refine pz_ 7 a ?_; refine pz_ 8 a ?_; refine pz_ 10 a ?_; refine pz_ 13 a ?_; refine tz_ 9 a l i ?_; refine tz_ 11 a l i ?_; refine pz_ 12 a ?_; refine tz_ 14 a l i ?_; refine pz_ 15 a ?_; refine on_ 16 a (fun K hK => ?_); refine gg_ Try.func74 #[.int .i64 ((rd_T52 c d).f1), .int .i64 (wrap64 (((rd_T52 c d).f0) + 1)), .int .i64 (wrap64 (j - 1))] ?_
           with_reducible refine (spec_l6In.calls ((rd_T52 c d).f1) (wrap64 (((rd_T52 c d).f0) + 1)) (wrap64 (j - 1)) true _ W.out).mono ?_
           rintro e w' ⟨rfl, ⟨nd, rfl⟩⟩; refine ⟨_, rfl, ?_⟩; refine hK.out _ _ ⟨(bc g 0), (bc g 1), (bc b 0), (bc b 1), (hb_ HB D), (hb_ HB B)⟩ (fun i => ?_); clear hK K; refine nz_ 43 ?_; refine pz_ 17 a ?_; refine pz_ 18 a ?_; refine pz_ 19 a ?_; refine pz_ 20 a ?_; refine pz_ 21 a ?_; refine pz_ 22 a ?_; refine pz_ 23 a ?_; refine pz_ 25 a ?_; refine pz_ 26 a ?_; refine tz_ 24 a l i ?_; refine pz_ 27 a ?_; refine tz_ 28 a l i ?_; refine tz_ 29 a l i ?_; refine on_ 30 a (fun K hK => ?_); refine goes_ Try.func75 (by kernel_rfl) rfl #[.agg #[.int .i64 ((rd_T52 c (n)).f0), .int .i64 ((rd_T52 c (n)).f1)], .agg #[.int .i64 ((rd_T52 c d).f0), .int .i64 ((rd_T52 c d).f1)]] (by rfl) rfl rfl (by (try simp only [List.map_toArray, List.map_cons, List.map_nil]); first | done | (simp only [E]; rfl) | rfl | (simp only [List.length_drop, List.length_take]; rfl)) ?_
           with_reducible refine (spec_l1Less.calls ((rd_T52 c (n)).f0) ((rd_T52 c (n)).f1) ((rd_T52 c d).f0) ((rd_T52 c d).f1) true _ ar.out).mono ?_
           rintro e w27 ⟨rfl, hb⟩; refine ⟨_, rfl, ?_⟩; replace b := bb b hb; replace g := bb g hb; replace HB := bs HB hb; (try clear hb); refine hK.out _ _ ⟨(bc g 0), (bc g 1), (bc b 0), (bc b 1), (hb_ HB D), (hb_ HB B)⟩ (fun i => ?_); clear hK K; refine nz_ 57 ?_; refine pz_ 31 a ?_; refine pz_ 32 a ?_; refine pz_ 33 a ?_; refine done_ (done_of a.out (by kernel_rfl)) ?_; try go_wp2
           go_roundg k2
           case measure => have := Z.out; have := aa.out; omega
           case rel => exact ⟨(wrap64 (d + 1)), rs_, H', ⟨by have := Z.out; have := aa.out; omega⟩, ⟨bkn b⟩, ⟨bn HB⟩⟩
          ·obtain rfl := nt_ au; rw [if_neg nf_] at H; obtain rfl := Option.some.inj H; have aU := c2 b; have o : 0 ≤ (d : Int) := oa; have p : d < (c.length : Int) := oa; obtain ⟨P, u, q, s⟩ := at_T52 G.out d o p; cases u; replace q := hc_ HB q; replace s := hc_ HB s; obtain ⟨o, p⟩ := e2_ o p
           try go_wp2_with (first | ((with_reducible refine gate_dst (N := 4) rfl ?_); refine bx_ 4 #[.int .i64 0, .int .i64 0] 52 HB ?_; clear HB; intro t hg aC hb g ab HB; obtain ⟨x, y⟩ := nb_ hg b; replace b := bb b hb; clear hb hg; have aV := n2 y x; have aW := c2 g))
           obtain ⟨aD, m⟩ := nw_ ((aC.setCell ⟨t, 0, none⟩ (.int .i64 ((rd_T52 c d).f0))).setCell ⟨t, 1, none⟩ (.int .i64 ((rd_T52 c d).f1))); replace b := tD m b; replace g := tD m g; replace HB := tM m HB; rw [← m]; clear m; have I : 0 ≤ ((n) : Int) := oa; have J : (n) < (c.length : Int) := oa; obtain ⟨ag, ah, z, A⟩ := at_T52 G.out (n) I J; have B := A; have D := z; obtain rfl : P = ag := (by injection ah); replace z := hc_ HB z; replace A := hc_ HB A; obtain ⟨I, J⟩ := e2_ I J; refine s6_ 34 [] (bq g 0) (bq g 1) (bq b 0) (bq b 1) (hb_ HB D) (hb_ HB B) (fun i => ?_); refine with_tabW spec_NetOk.tab7 spec_NetOk.bits7 (fun a l => ?_); generalize aD.drew = w33 at b g HB z A i ⊢; refine pz_ 0 a ?_; refine pz_ 2 a ?_; refine tz_ 1 a l i ?_; refine tz_ 3 a l i ?_; refine pz_ 4 a ?_; refine on_ 5 a (fun K hK => ?_); refine gg_ Try.func74 #[.int .i64 ((rd_T52 c d).f0), .int .i64 0, .int .i64 (wrap64 (j - 1))] ?_
           with_reducible refine (spec_l6In.calls ((rd_T52 c d).f0) 0 (wrap64 (j - 1)) true _ M.out).mono ?_
           rintro e w' ⟨rfl, ⟨nd, rfl⟩⟩; refine ⟨_, rfl, ?_⟩; refine hK.out _ _ ⟨(bc g 0), (bc g 1), (bc b 0), (bc b 1), (hb_ HB D), (hb_ HB B)⟩ (fun i => ?_); clear hK K; refine nz_ 32 ?_; refine pz_ 6 a ?_; refine pz_ 7 a ?_; refine pz_ 8 a ?_; refine pz_ 10 a ?_; refine pz_ 13 a ?_; refine tz_ 9 a l i ?_; refine tz_ 11 a l i ?_; refine pz_ 12 a ?_; refine tz_ 14 a l i ?_; refine pz_ 15 a ?_; refine on_ 16 a (fun K hK => ?_); refine gg_ Try.func74 #[.int .i64 ((rd_T52 c d).f1), .int .i64 (wrap64 (((rd_T52 c d).f0) + 1)), .int .i64 (wrap64 (j - 1))] ?_
           with_reducible refine (spec_l6In.calls ((rd_T52 c d).f1) (wrap64 (((rd_T52 c d).f0) + 1)) (wrap64 (j - 1)) true _ W.out).mono ?_
           rintro e w' ⟨rfl, ⟨nd, rfl⟩⟩; refine ⟨_, rfl, ?_⟩; refine hK.out _ _ ⟨(bc g 0), (bc g 1), (bc b 0), (bc b 1), (hb_ HB D), (hb_ HB B)⟩ (fun i => ?_); clear hK K; refine nz_ 43 ?_; refine pz_ 17 a ?_; refine pz_ 18 a ?_; refine pz_ 19 a ?_; refine pz_ 20 a ?_; refine pz_ 21 a ?_; refine pz_ 22 a ?_; refine pz_ 23 a ?_; refine pz_ 25 a ?_; refine pz_ 26 a ?_; refine tz_ 24 a l i ?_; refine pz_ 27 a ?_; refine tz_ 28 a l i ?_; refine tz_ 29 a l i ?_; refine on_ 30 a (fun K hK => ?_); refine goes_ Try.func75 (by kernel_rfl) rfl #[.agg #[.int .i64 ((rd_T52 c (n)).f0), .int .i64 ((rd_T52 c (n)).f1)], .agg #[.int .i64 ((rd_T52 c d).f0), .int .i64 ((rd_T52 c d).f1)]] (by rfl) rfl rfl (by (try simp only [List.map_toArray, List.map_cons, List.map_nil]); first | done | (simp only [E]; rfl) | rfl | (simp only [List.length_drop, List.length_take]; rfl)) ?_
           with_reducible refine (spec_l1Less.calls ((rd_T52 c (n)).f0) ((rd_T52 c (n)).f1) ((rd_T52 c d).f0) ((rd_T52 c d).f1) false _ ar.out).mono ?_
           rintro e w34 ⟨rfl, hb⟩; refine ⟨_, rfl, ?_⟩; replace b := bb b hb; replace g := bb g hb; replace HB := bs HB hb; (try clear hb); refine hK.out _ _ ⟨(bc g 0), (bc g 1), (bc b 0), (bc b 1), (hb_ HB D), (hb_ HB B)⟩ (fun i => ?_); clear hK K; refine nz_ 57 ?_; refine pz_ 31 a ?_; refine pz_ 32 a ?_; refine pz_ 33 a ?_; refine done_ (done_of a.out (by kernel_rfl)) ?_; try go_wp2
           go_ret
           exact ⟨by first | rfl | (simp [errW_none, errW_some] <;> rfl) | (simp only [← E]; first | rfl | (simp [errW_none, errW_some] <;> rfl)) | (simp [*, errW_none, errW_some] <;> rfl), bn HB⟩
         ·rw [if_neg O] at H; have az := decide_eq_false O; clear O; have H' := am H; clear H; have aX := c2 b; have o : 0 ≤ (d : Int) := oa; have p : d < (c.length : Int) := oa; obtain ⟨P, u, q, s⟩ := at_T52 G.out d o p; cases u; replace q := hc_ HB q; replace s := hc_ HB s; obtain ⟨o, p⟩ := e2_ o p
          try go_wp2_with (first | ((with_reducible refine gate_dst (N := 4) rfl ?_); refine bx_ 4 #[.int .i64 0, .int .i64 0] 52 HB ?_; clear HB; intro t hg aE hb g ab HB; obtain ⟨x, y⟩ := nb_ hg b; replace b := bb b hb; clear hb hg; have aY := n2 y x; have aZ := c2 g))
          obtain ⟨aF, m⟩ := nw_ ((aE.setCell ⟨t, 0, none⟩ (.int .i64 ((rd_T52 c d).f0))).setCell ⟨t, 1, none⟩ (.int .i64 ((rd_T52 c d).f1))); replace b := tD m b; replace g := tD m g; replace HB := tM m HB; rw [← m]; clear m; refine s4_ 34 [] (bq g 0) (bq g 1) (bq b 0) (bq b 1) (fun i => ?_); refine with_tabW spec_NetOk.tab7 spec_NetOk.bits7 (fun a l => ?_); generalize aF.drew = w40 at b g HB i ⊢; refine pz_ 0 a ?_; refine pz_ 2 a ?_; refine tz_ 1 a l i ?_; refine tz_ 3 a l i ?_; refine pz_ 4 a ?_; refine on_ 5 a (fun K hK => ?_); refine gg_ Try.func74 #[.int .i64 ((rd_T52 c d).f0), .int .i64 0, .int .i64 (wrap64 (j - 1))] ?_
          with_reducible refine (spec_l6In.calls ((rd_T52 c d).f0) 0 (wrap64 (j - 1)) true _ M.out).mono ?_
          rintro e w' ⟨rfl, ⟨nd, rfl⟩⟩; refine ⟨_, rfl, ?_⟩; refine hK.out _ _ ⟨(bc g 0), (bc g 1), (bc b 0), (bc b 1)⟩ (fun i => ?_); clear hK K; refine nz_ 32 ?_; refine pz_ 6 a ?_; refine pz_ 7 a ?_; refine pz_ 8 a ?_; refine pz_ 10 a ?_; refine pz_ 13 a ?_; refine tz_ 9 a l i ?_; refine tz_ 11 a l i ?_; refine pz_ 12 a ?_; refine tz_ 14 a l i ?_; refine pz_ 15 a ?_; refine on_ 16 a (fun K hK => ?_); refine gg_ Try.func74 #[.int .i64 ((rd_T52 c d).f1), .int .i64 (wrap64 (((rd_T52 c d).f0) + 1)), .int .i64 (wrap64 (j - 1))] ?_
          with_reducible refine (spec_l6In.calls ((rd_T52 c d).f1) (wrap64 (((rd_T52 c d).f0) + 1)) (wrap64 (j - 1)) true _ W.out).mono ?_
          rintro e w' ⟨rfl, ⟨nd, rfl⟩⟩; refine ⟨_, rfl, ?_⟩; refine hK.out _ _ ⟨(bc g 0), (bc g 1), (bc b 0), (bc b 1)⟩ (fun i => ?_); clear hK K; refine nz_ 43 ?_; refine pz_ 17 a ?_; refine pz_ 18 a ?_; refine pz_ 19 a ?_; refine pz_ 20 a ?_; refine pz_ 21 a ?_; refine pz_ 22 a ?_; refine pu_ 23 a ?_; refine pu_ 24 a ?_; refine pu_ 25 a ?_; refine pu_ 26 a ?_; refine pu_ 27 a ?_; refine pu_ 28 a ?_; refine pu_ 29 a ?_; refine pu_ 30 a ?_; refine pu_ 31 a ?_; refine pz_ 32 a ?_; refine pz_ 33 a ?_; refine done_ (done_of a.out (by kernel_rfl)) ?_; try go_wp2
          go_roundg k2
          case measure => have := Z.out; have := aa.out; omega
          case rel => exact ⟨(wrap64 (d + 1)), rs_, H', ⟨by have := Z.out; have := aa.out; omega⟩, ⟨bkn b⟩, ⟨bn HB⟩⟩
        ·obtain rfl := nt_ aq; rw [if_neg nf_] at H; obtain rfl := Option.some.inj H; have a0 := c2 b; have o : 0 ≤ (d : Int) := oa; have p : d < (c.length : Int) := oa; obtain ⟨P, u, q, s⟩ := at_T52 G.out d o p; cases u; replace q := hc_ HB q; replace s := hc_ HB s; obtain ⟨o, p⟩ := e2_ o p
         try go_wp2_with (first | ((with_reducible refine gate_dst (N := 4) rfl ?_); refine bx_ 4 #[.int .i64 0, .int .i64 0] 52 HB ?_; clear HB; intro t hg aG hb g ab HB; obtain ⟨x, y⟩ := nb_ hg b; replace b := bb b hb; clear hb hg; have a1 := n2 y x; have a2 := c2 g))
         obtain ⟨aH, m⟩ := nw_ ((aG.setCell ⟨t, 0, none⟩ (.int .i64 ((rd_T52 c d).f0))).setCell ⟨t, 1, none⟩ (.int .i64 ((rd_T52 c d).f1))); replace b := tD m b; replace g := tD m g; replace HB := tM m HB; rw [← m]; clear m; refine s4_ 34 [] (bq g 0) (bq g 1) (bq b 0) (bq b 1) (fun i => ?_); refine with_tabW spec_NetOk.tab7 spec_NetOk.bits7 (fun a l => ?_); generalize aH.drew = w46 at b g HB i ⊢; refine pz_ 0 a ?_; refine pz_ 2 a ?_; refine tz_ 1 a l i ?_; refine tz_ 3 a l i ?_; refine pz_ 4 a ?_; refine on_ 5 a (fun K hK => ?_); refine gg_ Try.func74 #[.int .i64 ((rd_T52 c d).f0), .int .i64 0, .int .i64 (wrap64 (j - 1))] ?_
         with_reducible refine (spec_l6In.calls ((rd_T52 c d).f0) 0 (wrap64 (j - 1)) true _ M.out).mono ?_
         rintro e w' ⟨rfl, ⟨nd, rfl⟩⟩; refine ⟨_, rfl, ?_⟩; refine hK.out _ _ ⟨(bc g 0), (bc g 1), (bc b 0), (bc b 1)⟩ (fun i => ?_); clear hK K; refine nz_ 32 ?_; refine pz_ 6 a ?_; refine pz_ 7 a ?_; refine pz_ 8 a ?_; refine pz_ 10 a ?_; refine pz_ 13 a ?_; refine tz_ 9 a l i ?_; refine tz_ 11 a l i ?_; refine pz_ 12 a ?_; refine tz_ 14 a l i ?_; refine pz_ 15 a ?_; refine on_ 16 a (fun K hK => ?_); refine gg_ Try.func74 #[.int .i64 ((rd_T52 c d).f1), .int .i64 (wrap64 (((rd_T52 c d).f0) + 1)), .int .i64 (wrap64 (j - 1))] ?_
         with_reducible refine (spec_l6In.calls ((rd_T52 c d).f1) (wrap64 (((rd_T52 c d).f0) + 1)) (wrap64 (j - 1)) false _ W.out).mono ?_
         rintro e w' ⟨rfl, ⟨nd, rfl⟩⟩; refine ⟨_, rfl, ?_⟩; refine hK.out _ _ ⟨(bc g 0), (bc g 1), (bc b 0), (bc b 1)⟩ (fun i => ?_); clear hK K; refine nz_ 43 ?_; refine pz_ 17 a ?_; refine pz_ 18 a ?_; refine pz_ 19 a ?_; refine pu_ 20 a ?_; refine pu_ 21 a ?_; refine pu_ 22 a ?_; refine pu_ 23 a ?_; refine pu_ 24 a ?_; refine pu_ 25 a ?_; refine pu_ 26 a ?_; refine pu_ 27 a ?_; refine pu_ 28 a ?_; refine pu_ 29 a ?_; refine pu_ 30 a ?_; refine pu_ 31 a ?_; refine pu_ 32 a ?_; refine pz_ 33 a ?_; refine done_ (done_of a.out (by kernel_rfl)) ?_; try go_wp2
         go_ret
         exact ⟨er_, bn HB⟩
       ·obtain rfl := nt_ ap; rw [if_neg nf_] at H; obtain rfl := Option.some.inj H; have a3 := c2 b; have o : 0 ≤ (d : Int) := oa; have p : d < (c.length : Int) := oa; obtain ⟨P, u, q, s⟩ := at_T52 G.out d o p; cases u; replace q := hc_ HB q; replace s := hc_ HB s; obtain ⟨o, p⟩ := e2_ o p
        try go_wp2_with (first | ((with_reducible refine gate_dst (N := 4) rfl ?_); refine bx_ 4 #[.int .i64 0, .int .i64 0] 52 HB ?_; clear HB; intro t hg aI hb g ab HB; obtain ⟨x, y⟩ := nb_ hg b; replace b := bb b hb; clear hb hg; have a4 := n2 y x; have a5 := c2 g))
        obtain ⟨aJ, m⟩ := nw_ ((aI.setCell ⟨t, 0, none⟩ (.int .i64 ((rd_T52 c d).f0))).setCell ⟨t, 1, none⟩ (.int .i64 ((rd_T52 c d).f1))); replace b := tD m b; replace g := tD m g; replace HB := tM m HB; rw [← m]; clear m; refine s4_ 34 [] (bq g 0) (bq g 1) (bq b 0) (bq b 1) (fun i => ?_); refine with_tabW spec_NetOk.tab7 spec_NetOk.bits7 (fun a l => ?_); generalize aJ.drew = w52 at b g HB i ⊢; refine pz_ 0 a ?_; refine pz_ 2 a ?_; refine tz_ 1 a l i ?_; refine tz_ 3 a l i ?_; refine pz_ 4 a ?_; refine on_ 5 a (fun K hK => ?_); refine gg_ Try.func74 #[.int .i64 ((rd_T52 c d).f0), .int .i64 0, .int .i64 (wrap64 (j - 1))] ?_
        with_reducible refine (spec_l6In.calls ((rd_T52 c d).f0) 0 (wrap64 (j - 1)) false _ M.out).mono ?_
        rintro e w' ⟨rfl, ⟨nd, rfl⟩⟩; refine ⟨_, rfl, ?_⟩; refine hK.out _ _ ⟨(bc g 0), (bc g 1), (bc b 0), (bc b 1)⟩ (fun i => ?_); clear hK K; refine nz_ 32 ?_; refine pz_ 6 a ?_; refine pz_ 7 a ?_; refine pu_ 8 a ?_; refine pu_ 9 a ?_; refine pu_ 10 a ?_; refine pu_ 11 a ?_; refine pu_ 12 a ?_; refine pu_ 13 a ?_; refine pu_ 14 a ?_; refine pu_ 15 a ?_; refine pu_ 16 a ?_; refine pu_ 17 a ?_; refine pz_ 18 a ?_; refine pz_ 19 a ?_; refine pu_ 20 a ?_; refine pu_ 21 a ?_; refine pu_ 22 a ?_; refine pu_ 23 a ?_; refine pu_ 24 a ?_; refine pu_ 25 a ?_; refine pu_ 26 a ?_; refine pu_ 27 a ?_; refine pu_ 28 a ?_; refine pu_ 29 a ?_; refine pu_ 30 a ?_; refine pu_ 31 a ?_; refine pu_ 32 a ?_; refine pz_ 33 a ?_; refine done_ (done_of a.out (by kernel_rfl)) ?_; try go_wp2
        go_ret
        exact ⟨er_, bn HB⟩
      ·rw [if_neg L] at H; have aw := decide_eq_false L; clear L; obtain rfl := Option.some.inj H; have a6 := c2 b; go_wp2
       go_ret
       exact ⟨er_, bn HB⟩
end Go.Proofs.Ytffflhmblelegaa.F
