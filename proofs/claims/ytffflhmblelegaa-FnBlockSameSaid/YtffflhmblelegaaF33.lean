-- By oprint.py.
import Derived.Test.YtffflhmblelegaaF0
import Derived.Test.YtffflhmblelegaaF31
namespace Go.Proofs.Ytffflhmblelegaa.F
open Go.RowKit Go.Proofs.YtffflhmblelegaaW.PrintWords Go.Proofs.YtffflhmblelegaaW.PrintLast Go.Proofs.YtffflhmblelegaaW.PrintMore
attribute [local go_sem] max2_int min2_int max_two min_two max_three min_three max_four min_four
set_option linter.unusedVariables false
set_option linter.unusedSimpArgs false

/-! ### spec_l12Labels: function 65 -/
mutual
def spec_l12Labels.l0 : Nat → List Int → Int → Int → List (S52) → Option (List Int)
 | 0, _, _, _, _ => none
 | k + 1, x3, x4, x716000, x716001 => if x4 < (x716001.length : Int) then (if x3.length < 17592186044416 then (spec_l12Labels.l0 k (x3 ++ [x4]) (wrap64 (x4 + 1)) x716000 x716001) else (none)) else (spec_l12Labels.l1 k x3 true x716000 x716001)
def spec_l12Labels.l1 : Nat → List Int → Bool → Int → List (S52) → Option (List Int)
 | 0, _, _, _, _ => none
 | k + 1, x3, x5, x716000, x716001 => if x5 = true then (spec_l12Labels.l2 k x3 false 0 x716000 x716001) else (some x3)
def spec_l12Labels.l2 : Nat → List Int → Bool → Int → Int → List (S52) → Option (List Int)
 | 0, _, _, _, _, _ => none
 | k + 1, x3, x5, x6, x716000, x716001 => if x6 < (x716001.length : Int) then (spec_l12Labels.l3 k x3 x5 x6 0 x716000 x716001) else (spec_l12Labels.l1 k x3 x5 x716000 x716001)
def spec_l12Labels.l3 : Nat → List Int → Bool → Int → Int → Int → List (S52) → Option (List Int)
 | 0, _, _, _, _, _, _ => none
 | k + 1, x3, x5, x6, x7, x716000, x716001 => if x7 < (x716001.length : Int) then (if 0 ≤ x7 then (if x7 < (x3.length : Int) then (if 0 ≤ x6 then (if x6 < (x3.length : Int) then (if (rd x3 x7) < (rd x3 x6) then (if x6 < (x716001.length : Int) then ((spec_l12Side.f k x716000 x716001 ((rd_T52 x716001 x6).f0) ((rd_T52 x716001 x6).f1) ((rd_T52 x716001 x7).f0) ((rd_T52 x716001 x7).f1)).bind fun t726 => (if t726 = true then (spec_l12Labels.l3 k (x3.set (x6 : Int).toNat (rd x3 x7)) true x6 (wrap64 (x7 + 1)) x716000 x716001) else (spec_l12Labels.l3 k x3 x5 x6 (wrap64 (x7 + 1)) x716000 x716001))) else (none)) else (spec_l12Labels.l3 k x3 x5 x6 (wrap64 (x7 + 1)) x716000 x716001)) else (none)) else (none)) else (none)) else (none)) else (spec_l12Labels.l2 k x3 x5 (wrap64 (x6 + 1)) x716000 x716001)
end
def spec_l12Labels.f (k : Nat) (a0_0 : Int) (l0_1 : List (S52)) : Option (List Int) := spec_l12Labels.l0 k (([] : List Int)) 0 a0_0 l0_1
theorem spec_l12Labels.mono_l : ∀ k, (∀ a b c d, LeO (spec_l12Labels.l0 k a b c d) (spec_l12Labels.l0 (k + 1) a b c d)) ∧ (∀ a b c d, LeO (spec_l12Labels.l1 k a b c d) (spec_l12Labels.l1 (k + 1) a b c d)) ∧ (∀ a b c d e, LeO (spec_l12Labels.l2 k a b c d e) (spec_l12Labels.l2 (k + 1) a b c d e)) ∧ (∀ a b c d e f, LeO (spec_l12Labels.l3 k a b c d e f) (spec_l12Labels.l3 (k + 1) a b c d e f))
 | 0 => ⟨fun _ _ _ _ r h => by simp [spec_l12Labels.l0] at h, fun _ _ _ _ r h => by simp [spec_l12Labels.l1] at h, fun _ _ _ _ _ r h => by simp [spec_l12Labels.l2] at h, fun _ _ _ _ _ _ r h => by simp [spec_l12Labels.l3] at h⟩
 | k + 1 => by
  obtain ⟨ih0, ih1, ih2, ih3⟩ := spec_l12Labels.mono_l k; refine ⟨?_, ?_, ?_, ?_⟩
  ·intro a b c d; unfold spec_l12Labels.l0; have g := @spec_l12Side.mono; exact mo_
  ·intro a b c d; unfold spec_l12Labels.l1; have g := @spec_l12Side.mono; exact mo_
  ·intro a b c d e; unfold spec_l12Labels.l2; have g := @spec_l12Side.mono; exact mo_
  ·intro a b c d e f; unfold spec_l12Labels.l3; have g := @spec_l12Side.mono; exact mo_
theorem spec_l12Labels.mono : ∀ a b k, LeO (spec_l12Labels.f k a b) (spec_l12Labels.f (k + 1) a b) := by
 intro a b k; obtain ⟨ih0, ih1, ih2, ih3⟩ := spec_l12Labels.mono_l k; unfold spec_l12Labels.f; have m0_ := @spec_l12Side.mono; exact mo_
def spec_l12Labels.T15 : Bool × List (List Nat × List Nat) := (true, [([], []), ([], []), ([0, 1], [0, 1]), ([2], [2]), ([], []), ([], []), ([4, 5], [4, 5]), ([6], [6]), ([3, 7], [3, 7]), ([8], [8]), ([9], [9]), ([9], [9]), ([11, 9], [9, 11]), ([9], [9]), ([12, 13, 9], [9, 12, 13]), ([14, 9], [9, 14]), ([9], [9]), ([16, 9], [9, 16]), ([9], [9]), ([17, 18, 9], [9, 17, 18]), ([19, 9], [9, 19]), ([10, 15, 20, 9, 9], [9, 10, 15, 20]), ([9, 21], [9, 21])])
def spec_l12Labels.B15 : List Nat := [0, 0, 3, 7, 0, 0, 48, 112, 255, 511, 1023, 1023, 3071, 1023, 15359, 31743, 1023, 66559, 1023, 459775, 984063, 2097151, 4194303]
theorem spec_l12Labels.tab15 : rtab .any (opsOf Try.f65 15) = spec_l12Labels.T15 := by kernel_rfl
theorem spec_l12Labels.bits15 : waitsOk spec_l12Labels.T15.2 spec_l12Labels.B15 = true := by kernel_rfl
set_option maxHeartbeats 8000000 in
set_option maxRecDepth 100000 in
theorem spec_l12Labels.calls (k : Nat) (n : Int) (T : Option Addr) (B : Nat) (d : List (S52)) (r : List Int) (w : World) (a1 : Kd.C k52 w T d.length d) (a2 : d.length ≤ B) (h : spec_l12Labels.f k n d = some r) :
  Calls Try.prog 65 #[.agg #[.int .i64 n, .slice T d.length B]] w fun e w' => ∃ a3 : Value, e = .returned (a3) ∧ Kd.R (Kd.int .i64) 3 w' w.heap.size (fun _ => True) a3 r ∧ Below w.heap.size w w' := by
 have bI := Try.underlying25; have bJ := Try.underlying52; have aa := am a1; have a4 := am a2; clear a1 a2; have HB := am (Below.refl w.heap.size w)
 have H : (spec_l12Labels.l0 k (([] : List Int)) 0 n d) = some r := h
 clear h; obtain ⟨a5, aE⟩ : ∃ y_ : List Int, y_ = (([] : List Int)) := ⟨_, rfl⟩; replace H : (spec_l12Labels.l0 k a5 0 n d) = some r := nh_ aE H; have a6 := am aE; clear aE; have H' := am H; clear H; go_enter Try.func65, Try.ntmps65
 go_wp2_with (first | ((with_reducible refine gate_dst (N := 1) rfl ?_); refine bx_ 1 #[.int .i64 n, .slice T d.length B] 25 HB ?_; clear HB; intro ay hg w2 hb c bK HB; clear hb hg) | ((with_reducible refine gate_dst (N := 8) rfl ?_); refine Kd.R_lit (Kd.int .i64) _ 3 ?hg (N := 8) ?hd (xs := ([] : List Int)) (inner := []) (ok := fun _ => True) (okp := fun _ => True) ?hr ?hp (fun _ hk => hk) trivial (Below.refl _ _) (Nat.le_refl _) (by simp) ?_; (case hd => rfl); (case hg => rfl); (case hr => first | (go_simp; done) | (go_simp; rfl)); (case hp => exact (Reps.none _ _)); intro bL w3 ah hb bk bl; clear bk bl; (first | rw [← a6.out] at ah | (simp only [Int.reduceToNat] at ah; rw [← a6.out] at ah)); have bo := am (Kd.R_lower ah (below_size (bn HB))); replace c := bb c hb; replace HB := bs HB hb; clear hb ah))
 go_loopg [3, 4] k (fun kq v3 v4 w' => ∃ (ab : List Int) (D : Int), v4 = .int .i64 D ∧ Aside0 (spec_l12Labels.l0 kq ab D n d = some r) ∧ Aside0 (kq ≤ k) ∧ Aside0 (Kd.R (Kd.int .i64) 3 w' w.heap.size (fun _ => True) v3 ab) ∧ Bk w' ay (.cells #[.int .i64 n, (.slice T d.length B)] 25 (0, 0)) ∧ Aside0 (Below w.heap.size w w'))
 case atStart => exact ⟨(a5), (0), rs_, H', ⟨Nat.le_refl _⟩, ⟨onR bo⟩, ⟨bkn c⟩, ⟨bn HB⟩⟩
 case round =>
  clear H'; obtain ⟨ab, D, rfl, HA, q, g, c, HB⟩ := hrel; cases gk with
  | zero => exact absurd HA.out (by simp [spec_l12Labels.l0])
  | succ k1 =>
   have H := HA.out; clear HA; simp only [spec_l12Labels.l0] at H; by_cases E : D < (d.length : Int)
   ·rw [if_pos E] at H; have az := decide_eq_true E; clear E; obtain ⟨c6, H⟩ := ig_ H; have bp := am c6; clear c6; obtain ⟨a7, aG⟩ : ∃ y_ : List Int, y_ = (ab ++ [D]) := ⟨_, rfl⟩; replace H : (spec_l12Labels.l0 k1 a7 (wrap64 (D + 1)) n d) = some r := nh_ aG H; have br := am aG; clear aG; have H' := am H; clear H; have aH := c2 c
    go_wp2_with (first | ((with_reducible refine gate_builtin (b := .append) (xs := #[.tmp 16, .tmp 18]) rfl ?_); at_builtin; refine Kd.R_append (Kd.int .i64) (w0 := w) w.heap.size rfl (.tmp 16) (.tmp 18) 30 3 (.int .i64 0) 8 rfl Try.underlying30 info3 rfl (by decide) (by omega) u3 ab D [.int .i64 D] (fun _ => True) (fun _ => False) rfl rfl ?aP (fun _ hk => hk.elim) ?aF ?aO ?aB ?aS ?aL ?_; (case aP => exact rfl); (case aB => exact (bn HB)); (case aF => exact (fun _ _ => trivial)); (case aO => exact (onR g)); (case aS => exact (below_size (bn HB))); (case aL => have := bp.out; omega); intro bM w8 ho hb hg bu; rw [← br.out] at ho; replace c := bm (blk_grown (bkn c) hg (Kd.R_ne g.out c.out (by decide))); replace HB := am hb; have bv := am ho; clear g; clear ho hb hg bu))
    go_roundg k1
    case measure => have := q.out; omega
    case rel => exact ⟨(a7), (wrap64 (D + 1)), rs_, H', ⟨by have := q.out; omega⟩, ⟨onR bv⟩, ⟨bkn c⟩, ⟨bn HB⟩⟩
   ·rw [if_neg E] at H; have az := decide_eq_false E; clear E; have H' := am H; clear H; have aI := c2 c; go_wp2
    go_loopg [5] k1 (fun kq v5 w' => ∃ (aA : List Int) (aC : Bool), v5 = .bool aC ∧ Aside0 (spec_l12Labels.l1 kq aA aC n d = some r) ∧ Aside0 (kq ≤ k1) ∧ Aside0 (Kd.R (Kd.int .i64) 3 w' w.heap.size (fun _ => True) u3 aA) ∧ Bk w' ay (.cells #[.int .i64 n, (.slice T d.length B)] 25 (0, 0)) ∧ Aside0 (Below w.heap.size w w'))
    case atStart => exact ⟨(ab), (true), rs_, H', ⟨Nat.le_refl _⟩, ⟨onR g⟩, ⟨bkn c⟩, ⟨bn HB⟩⟩
    case round =>
     clear H'; (try clear E az c6 aH aI); obtain ⟨aA, aC, rfl, HA, z, g, c, HB⟩ := hrel; cases gk with
     | zero => exact absurd HA.out (by simp [spec_l12Labels.l1])
     | succ k2 =>
      have H := HA.out; clear HA; simp only [spec_l12Labels.l1] at H; by_cases aD : aC = true
      ·subst aD; rw [if_pos rfl] at H; have H' := am H; clear H; go_wp2
       go_loopg [5, 6] k2 (fun kq v5 v6 w' => ∃ (ai : List Int) (aj : Bool) (i : Int), v5 = .bool aj ∧ v6 = .int .i64 i ∧ Aside0 (spec_l12Labels.l2 kq ai aj i n d = some r) ∧ Aside0 (kq ≤ k2) ∧ Aside0 (Kd.R (Kd.int .i64) 3 w' w.heap.size (fun _ => True) u3 ai) ∧ Bk w' ay (.cells #[.int .i64 n, (.slice T d.length B)] 25 (0, 0)) ∧ Aside0 (Below w.heap.size w w'))
       case atStart => exact ⟨(aA), (false), (0), rs_, rs_, H', ⟨Nat.le_refl _⟩, ⟨onR g⟩, ⟨bkn c⟩, ⟨bn HB⟩⟩
       case round =>
        clear H'; (try clear E az c6 aD aH aI); obtain ⟨ai, aj, i, rfl, rfl, HA, A, g, c, HB⟩ := hrel; cases gk with
        | zero => exact absurd HA.out (by simp [spec_l12Labels.l2])
        | succ k3 =>
         have H := HA.out; clear HA; simp only [spec_l12Labels.l2] at H; by_cases U : i < (d.length : Int)
         ·rw [if_pos U] at H; have a8 := decide_eq_true U; clear U; have H' := am H; clear H; have bw := c2 c; go_wp2
          go_loopg [5, 7] k3 (fun kq v5 v7 w' => ∃ (m : List Int) (ad : Bool) (j : Int), v5 = .bool ad ∧ v7 = .int .i64 j ∧ Aside0 (spec_l12Labels.l3 kq m ad i j n d = some r) ∧ Aside0 (kq ≤ k3) ∧ Aside0 (Kd.R (Kd.int .i64) 3 w' w.heap.size (fun _ => True) u3 m) ∧ Bk w' ay (.cells #[.int .i64 n, (.slice T d.length B)] 25 (0, 0)) ∧ Aside0 (Below w.heap.size w w'))
          case atStart => exact ⟨(ai), (aj), (0), rs_, rs_, H', ⟨Nat.le_refl _⟩, ⟨onR g⟩, ⟨bkn c⟩, ⟨bn HB⟩⟩
          case round =>
           clear H'; (try clear E az c6 aD U a8 bw aH aI); obtain ⟨m, ad, j, rfl, rfl, HA, P, g, c, HB⟩ := hrel; cases gk with
           | zero => exact absurd HA.out (by simp [spec_l12Labels.l3])
           | succ k4 =>
            have H := HA.out; clear HA; simp only [spec_l12Labels.l3] at H; by_cases ae : j < (d.length : Int)
            ·rw [if_pos ae] at H; have bx := decide_eq_true ae; clear ae; obtain ⟨bN, H⟩ := id_ H; obtain ⟨bO, H⟩ := id_ H; obtain ⟨bP, H⟩ := id_ H; obtain ⟨bQ, H⟩ := id_ H; by_cases af : (rd m j) < (rd m i)
             ·rw [if_pos af] at H; have bz := decide_eq_true af; clear af; obtain ⟨bR, H⟩ := id_ H; obtain ⟨bA, a9, H⟩ := bi_ H; by_cases ba : bA = true
              ·subst ba; rw [if_pos rfl] at H; obtain ⟨aJ, aK⟩ : ∃ y_ : List Int, y_ = (m.set (i : Int).toNat (rd m j)) := ⟨_, rfl⟩; replace H : (spec_l12Labels.l3 k4 aJ true i (wrap64 (j + 1)) n d) = some r := nh_ aK H; have bB := am aK; clear aK; have H' := am H; clear H; have bS := c2 c; try go_wp2
               replace g := dR g; replace c := dB c; replace HB := dL HB; obtain ⟨bT, bC, bd⟩ := Kd.R_slice g.out; (first | subst bd | (injection bd with f1_ f2_ f3_; have ak := f1_.symm; have al := f3_.symm; clear f1_ f2_ f3_; subst ak; subst al)); have s : 0 ≤ (j : Int) := oa; have u : j < (m.length : Int) := oa; obtain ⟨ag, an, G⟩ := Kd.at_int (Kd.R_reads' g.out).2.2 j s u; cases an; obtain ⟨s, u⟩ := e2_ s u; have x : 0 ≤ (i : Int) := oa; have y : i < (m.length : Int) := oa; obtain ⟨ap, aq, I⟩ := Kd.at_int (Kd.R_reads' g.out).2.2 i x y; obtain rfl : ag = ap := (by injection aq); obtain ⟨x, y⟩ := e2_ x y; have W : 0 ≤ (i : Int) := oa; have X : i < (d.length : Int) := oa; obtain ⟨ar, aM, J, L⟩ := at_T52 aa.out i W X; have au := L; have av := J; cases aM; replace J := hc_ HB J; replace L := hc_ HB L; obtain ⟨W, X⟩ := e2_ W X; have Y : 0 ≤ (j : Int) := oa; have Z : j < (d.length : Int) := oa; obtain ⟨aN, aQ, M, O⟩ := at_T52 aa.out j Y Z; have aw := O; have ax := M; obtain rfl : ar = aN := (by injection aQ); replace M := hc_ HB M; replace O := hc_ HB O; obtain ⟨Y, Z⟩ := e2_ Y Z; refine s8_ 23 [] (bq c 0) (bq c 1) G I (hb_ HB av) (hb_ HB au) (hb_ HB ax) (hb_ HB aw) (fun l => ?_); refine with_tabW spec_l12Labels.tab15 spec_l12Labels.bits15 (fun a o => ?_); generalize wr.drew = w24 at g c HB G I J L M O l ⊢; refine pz_ 0 a ?_; refine pz_ 1 a ?_; refine pz_ 2 a ?_; refine pz_ 4 a ?_; refine pz_ 5 a ?_; refine pz_ 6 a ?_; refine tz_ 3 a o l ?_; refine tz_ 7 a o l ?_; refine pz_ 8 a ?_; refine pz_ 9 a ?_; refine pz_ 11 a ?_; refine pz_ 13 a ?_; refine pz_ 16 a ?_; refine pz_ 18 a ?_; refine tz_ 10 a o l ?_; refine tz_ 12 a o l ?_; refine pz_ 14 a ?_; refine tz_ 15 a o l ?_; refine tz_ 17 a o l ?_; refine pz_ 19 a ?_; refine tz_ 20 a o l ?_; refine on_ 21 a (fun K hK => ?_); refine gg_ Try.func102 #[.agg #[.int .i64 n, .slice (some ar) d.length B], .agg #[.int .i64 ((rd_T52 d i).f0), .int .i64 ((rd_T52 d i).f1)], .agg #[.int .i64 ((rd_T52 d j).f0), .int .i64 ((rd_T52 d j).f1)]] ?_
               with_reducible refine (spec_l12Side.calls k4 n _ _ d ((rd_T52 d i).f0) ((rd_T52 d i).f1) ((rd_T52 d j).f0) ((rd_T52 d j).f1) true _ ?z_1 ?z_2 a9.out).mono ?_
               (case z_1 => exact cb aa HB); (case z_2 => exact a4.out); rintro e be ⟨rfl, hb⟩; have aR := (hb.cell (World.block_lt_of_cell? _ _ (l.2.2.1))).trans (l.2.2.1); have aT := (hb.cell (World.block_lt_of_cell? _ _ (l.2.2.2.1))).trans (l.2.2.2.1); refine ⟨_, rfl, ?_⟩; replace g := am (Kd.R_below (onR g) hb); replace c := bb c hb; replace HB := bs HB hb; (try clear hb hk); refine hK.out _ _ ⟨(bc c 0), (bc c 1), aR, aT, (hb_ HB av), (hb_ HB au), (hb_ HB ax), (hb_ HB aw)⟩ (fun l => ?_); clear hK K; refine nz_ 56 ?_; refine pz_ 22 a ?_; refine done_ (done_of a.out (by kernel_rfl)) ?_; have aU : 0 ≤ (j : Int) := oa; have aV : j < (m.length : Int) := oa; obtain ⟨bD, bE, bF⟩ := Kd.at_int (Kd.R_reads' g.out).2.2 j aU aV; obtain rfl : ag = bD := (by injection bE); obtain ⟨aU, aV⟩ := e2_ aU aV; have aW : 0 ≤ (i : Int) := oa; have aX : (i : Int) < ((m.length : Int) : Int) := oa; obtain ⟨aY, bU, bf, bg, bG, bV, bh⟩ := Kd.R_form g.out (by omega); (first | cases bf | (injection bf with ea_ en_ ec_; (first | subst ea_ | (injection ea_ with ea_; subst ea_)); subst ec_; clear en_)); have bH := am bg; have bW := am bh; clear bg bG bh; (first | simp only [add_plain] at G | skip); (first | simp only [add_plain] at I | skip); (first | simp only [add_plain] at bF | skip); obtain ⟨bX, bY⟩ := Kd.R_celln 0 g.out (i : Int) aW aX; obtain ⟨aW, aX⟩ := e2_ aW aX; obtain ⟨bZ, b0⟩ := Kd.R_celln 0 g.out (i : Int) (oa) (oa); have aZ := Kd.R_putg g.out (i : Int) (rd m j)
               try go_wp2_with (first | ((with_reducible refine gate_store (t := 3) (p := 64) rfl ?_); refine store_event (t := 3) (p := 64) (v := ?vo_w28) (w1 := (be.setCell ⟨aY, (i : Int).toNat, none⟩ (.int .i64 (rd m j)))) ?hg ?ho ?hn ?hr ?_; (case ho => rfl); (case hg => rfl); (case hn => rfl); (case hr => first | (go_simp; done) | (go_simp; rfl)); intro a0 hw; have hg : be.grownBy a0 (some aY) := (by rw [hw]; exact aZ.2); have hp_ : Kd.R (Kd.int .i64) 3 a0 w.heap.size (fun _ => True) (.slice (some ⟨aY, 0, none⟩) m.length bC) aJ := (by rw [hw, bB.out]; exact aZ.1); clear aZ; replace c := bm (blk_grown (bkn c) hg (Kd.R_ne g.out c.out (by decide))); replace g := am hp_; replace HB := am (by rw [hw]; exact below_set (HB.out) bH.out : Below w.heap.size w a0); clear hg hw hp_))
               go_roundg k4
               case measure => have := q.out; have := z.out; have := A.out; have := P.out; omega
               case rel => exact ⟨(aJ), (true), (wrap64 (j + 1)), rs_, rs_, H', ⟨by have := q.out; have := z.out; have := A.out; have := P.out; omega⟩, ⟨onR g⟩, ⟨bkn c⟩, ⟨bn HB⟩⟩
              ·obtain rfl := nt_ ba; rw [if_neg nf_] at H; have H' := am H; clear H; have b1 := c2 c; try go_wp2
               replace g := dR g; replace c := dB c; replace HB := dL HB; obtain ⟨b2, b3, bi⟩ := Kd.R_slice g.out; (first | subst bi | (injection bi with f1_ f2_ f3_; have ak := f1_.symm; have al := f3_.symm; clear f1_ f2_ f3_; subst ak; subst al)); have s : 0 ≤ (j : Int) := oa; have u : j < (m.length : Int) := oa; obtain ⟨ag, an, G⟩ := Kd.at_int (Kd.R_reads' g.out).2.2 j s u; cases an; obtain ⟨s, u⟩ := e2_ s u; have x : 0 ≤ (i : Int) := oa; have y : i < (m.length : Int) := oa; obtain ⟨ap, aq, I⟩ := Kd.at_int (Kd.R_reads' g.out).2.2 i x y; obtain rfl : ag = ap := (by injection aq); obtain ⟨x, y⟩ := e2_ x y; have W : 0 ≤ (i : Int) := oa; have X : i < (d.length : Int) := oa; obtain ⟨ar, aM, J, L⟩ := at_T52 aa.out i W X; have au := L; have av := J; cases aM; replace J := hc_ HB J; replace L := hc_ HB L; obtain ⟨W, X⟩ := e2_ W X; have Y : 0 ≤ (j : Int) := oa; have Z : j < (d.length : Int) := oa; obtain ⟨aN, aQ, M, O⟩ := at_T52 aa.out j Y Z; have aw := O; have ax := M; obtain rfl : ar = aN := (by injection aQ); replace M := hc_ HB M; replace O := hc_ HB O; obtain ⟨Y, Z⟩ := e2_ Y Z; refine s8_ 23 [] (bq c 0) (bq c 1) G I (hb_ HB av) (hb_ HB au) (hb_ HB ax) (hb_ HB aw) (fun l => ?_); refine with_tabW spec_l12Labels.tab15 spec_l12Labels.bits15 (fun a o => ?_); generalize wr.drew = w30 at g c HB G I J L M O l ⊢; refine pz_ 0 a ?_; refine pz_ 1 a ?_; refine pz_ 2 a ?_; refine pz_ 4 a ?_; refine pz_ 5 a ?_; refine pz_ 6 a ?_; refine tz_ 3 a o l ?_; refine tz_ 7 a o l ?_; refine pz_ 8 a ?_; refine pz_ 9 a ?_; refine pz_ 11 a ?_; refine pz_ 13 a ?_; refine pz_ 16 a ?_; refine pz_ 18 a ?_; refine tz_ 10 a o l ?_; refine tz_ 12 a o l ?_; refine pz_ 14 a ?_; refine tz_ 15 a o l ?_; refine tz_ 17 a o l ?_; refine pz_ 19 a ?_; refine tz_ 20 a o l ?_; refine on_ 21 a (fun K hK => ?_); refine gg_ Try.func102 #[.agg #[.int .i64 n, .slice (some ar) d.length B], .agg #[.int .i64 ((rd_T52 d i).f0), .int .i64 ((rd_T52 d i).f1)], .agg #[.int .i64 ((rd_T52 d j).f0), .int .i64 ((rd_T52 d j).f1)]] ?_
               with_reducible refine (spec_l12Side.calls k4 n _ _ d ((rd_T52 d i).f0) ((rd_T52 d i).f1) ((rd_T52 d j).f0) ((rd_T52 d j).f1) false _ ?z_1 ?z_2 a9.out).mono ?_
               (case z_1 => exact cb aa HB); (case z_2 => exact a4.out); rintro e w32 ⟨rfl, hb⟩; have aR := (hb.cell (World.block_lt_of_cell? _ _ (l.2.2.1))).trans (l.2.2.1); have aT := (hb.cell (World.block_lt_of_cell? _ _ (l.2.2.2.1))).trans (l.2.2.2.1); refine ⟨_, rfl, ?_⟩; replace g := am (Kd.R_below (onR g) hb); replace c := bb c hb; replace HB := bs HB hb; (try clear hb hk); refine hK.out _ _ ⟨(bc c 0), (bc c 1), aR, aT, (hb_ HB av), (hb_ HB au), (hb_ HB ax), (hb_ HB aw)⟩ (fun l => ?_); clear hK K; refine nz_ 56 ?_; refine pz_ 22 a ?_; refine done_ (done_of a.out (by kernel_rfl)) ?_; try go_wp2
               go_roundg k4
               case measure => have := q.out; have := z.out; have := A.out; have := P.out; omega
               case rel => exact ⟨(m), (ad), (wrap64 (j + 1)), rs_, rs_, H', ⟨by have := q.out; have := z.out; have := A.out; have := P.out; omega⟩, ⟨onR g⟩, ⟨bkn c⟩, ⟨bn HB⟩⟩
             ·rw [if_neg af] at H; have bz := decide_eq_false af; clear af; have H' := am H; clear H; have b4 := c2 c; try go_wp2
              replace g := dR g; replace c := dB c; replace HB := dL HB; obtain ⟨b5, b6, bj⟩ := Kd.R_slice g.out; (first | subst bj | (injection bj with f1_ f2_ f3_; have ak := f1_.symm; have al := f3_.symm; clear f1_ f2_ f3_; subst ak; subst al)); have s : 0 ≤ (j : Int) := oa; have u : j < (m.length : Int) := oa; obtain ⟨ag, an, G⟩ := Kd.at_int (Kd.R_reads' g.out).2.2 j s u; cases an; obtain ⟨s, u⟩ := e2_ s u; have x : 0 ≤ (i : Int) := oa; have y : i < (m.length : Int) := oa; obtain ⟨ap, aq, I⟩ := Kd.at_int (Kd.R_reads' g.out).2.2 i x y; obtain rfl : ag = ap := (by injection aq); obtain ⟨x, y⟩ := e2_ x y; refine s2_ 23 [] G I (fun l => ?_); refine with_tabW spec_l12Labels.tab15 spec_l12Labels.bits15 (fun a o => ?_); generalize wr.drew = w34 at g c HB G I l ⊢; refine pz_ 0 a ?_; refine pz_ 1 a ?_; refine pz_ 2 a ?_; refine pz_ 4 a ?_; refine pz_ 5 a ?_; refine pz_ 6 a ?_; refine tz_ 3 a o l ?_; refine tz_ 7 a o l ?_; refine pz_ 8 a ?_; refine pz_ 9 a ?_; refine pu_ 10 a ?_; refine pu_ 11 a ?_; refine pu_ 12 a ?_; refine pu_ 13 a ?_; refine pu_ 14 a ?_; refine pu_ 15 a ?_; refine pu_ 16 a ?_; refine pu_ 17 a ?_; refine pu_ 18 a ?_; refine pu_ 19 a ?_; refine pu_ 20 a ?_; refine pu_ 21 a ?_; refine pz_ 22 a ?_; refine done_ (done_of a.out (by kernel_rfl)) ?_; try go_wp2
              go_roundg k4
              case measure => have := q.out; have := z.out; have := A.out; have := P.out; omega
              case rel => exact ⟨(m), (ad), (wrap64 (j + 1)), rs_, rs_, H', ⟨by have := q.out; have := z.out; have := A.out; have := P.out; omega⟩, ⟨onR g⟩, ⟨bkn c⟩, ⟨bn HB⟩⟩
            ·rw [if_neg ae] at H; have bx := decide_eq_false ae; clear ae; have H' := am H; clear H; have b7 := c2 c; go_wp2
             go_roundg k4
             case measure => have := q.out; have := z.out; have := A.out; have := P.out; omega
             case rel => exact ⟨(m), (ad), (wrap64 (i + 1)), rs_, rs_, H', ⟨by have := q.out; have := z.out; have := A.out; have := P.out; omega⟩, ⟨onR g⟩, ⟨bkn c⟩, ⟨bn HB⟩⟩
         ·rw [if_neg U] at H; have a8 := decide_eq_false U; clear U; have H' := am H; clear H; have b8 := c2 c; go_wp2
          go_roundg k3
          case measure => have := q.out; have := z.out; have := A.out; omega
          case rel => exact ⟨(ai), (aj), rs_, H', ⟨by have := q.out; have := z.out; have := A.out; omega⟩, ⟨onR g⟩, ⟨bkn c⟩, ⟨bn HB⟩⟩
      ·obtain rfl := nt_ aD; rw [if_neg nf_] at H; obtain rfl := Option.some.inj H; go_wp2
       go_ret
       exact ⟨_, er_, onR g, bn HB⟩

end Go.Proofs.Ytffflhmblelegaa.F
