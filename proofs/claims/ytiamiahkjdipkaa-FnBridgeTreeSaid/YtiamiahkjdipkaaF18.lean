-- By oprint.py.
import Derived.Test.YtiamiahkjdipkaaF0
import Derived.Test.YtiamiahkjdipkaaF1
import Derived.Test.YtiamiahkjdipkaaF12
import Derived.Test.YtiamiahkjdipkaaF19
import Derived.Test.YtiamiahkjdipkaaF2
import Derived.Test.YtiamiahkjdipkaaF3
import Derived.Test.YtiamiahkjdipkaaF9
namespace Go.Proofs.Ytiamiahkjdipkaa.F
open Go.RowKit Go.Proofs.YtiamiahkjdipkaaW.PrintWords Go.Proofs.YtiamiahkjdipkaaW.PrintLast Go.Proofs.YtiamiahkjdipkaaW.PrintMore
attribute [local go_sem] max2_int min2_int max_two min_two max_three min_three max_four min_four
set_option linter.unusedVariables false
set_option linter.unusedSimpArgs false

attribute [local go_sem high] eqA35
/-! ### spec_DrawBridgeList: function 16 -/
def spec_DrawBridgeList.f (k : Nat) (l0 : List Int) : Option (Int × (List (S35))) := (spec_l6Open.f l0).bind fun bt467 => ((spec_l71Any.f k bt467.1 bt467.2).bind fun bt470 => (some (bt470.1, bt470.2.1)))
theorem spec_DrawBridgeList.mono : ∀ a k, LeO (spec_DrawBridgeList.f k a) (spec_DrawBridgeList.f (k + 1) a) := by
 intro a k; unfold spec_DrawBridgeList.f; have m0_ := @spec_l71Any.mono; exact mo_
set_option maxHeartbeats 8000000 in
set_option maxRecDepth 100000 in
theorem spec_DrawBridgeList.calls (k : Nat) (d : Option Addr) (g : Nat) (a : List Int) (i : Int) (j : List (S35)) (w : World) (l : Kd.C (Kd.int .u8) w d a.length a) (m : a.length ≤ g) (h : spec_DrawBridgeList.f k a = some (i, j)) :
  Calls Try.prog 16 #[.slice d a.length g] w fun e w' => ∃ n : Value, e = .returned (.agg #[.int .i64 i, n]) ∧ Kd.R k35 35 w' w.heap.size (fun _ => True) n j ∧ Below w.heap.size w w' := by
 have T := Try.underlying25; have B := am l; have D := am m; clear l m; have HB := am (Below.refl w.heap.size w)
 have H : ((spec_l6Open.f a).bind fun o => ((spec_l71Any.f k o.1 o.2).bind fun p => (some (p.1, p.2.1)))) = some (i, j) := h
 clear h; obtain ⟨⟨q, s⟩, E, H⟩ := bi_ H; (try dsimp only at H); obtain ⟨⟨t, u, G⟩, I, H⟩ := bi_ H; (try dsimp only at H); simp only [Option.some.injEq, Prod.mk.injEq] at H; obtain ⟨rfl, rfl⟩ := H; go_enter Try.func16, Try.ntmps16
 go_wp2_with (first | ((with_reducible refine gate_dst (N := 2) rfl ?_); refine bx_ 2 #[.int .i64 0, .slice none 0 0] 25 HB ?_; clear HB; intro J hg w4 hb b U HB; clear hb hg) | ((with_reducible refine gate_callee (f := 35) rfl ?_); refine gl_ (some 4) Try.func35 #[.slice d a.length g] ?_; (with_reducible refine (spec_l6Open.calls _ _ a q s w _ ?z_1 ?z_2 ?z_3 E.out).mono ?_); (case z_1 => exact bn HB); (case z_2 => exact B.out); (case z_3 => exact D.out); rintro e w5 ⟨x, rfl, hi, hb, c⟩; refine ⟨_, rfl, ?_⟩; replace HB := am hb; have K := am hi; have L := am (IsS88.ne_blk hi (blk_below (bkn b) c) (by decide)); have y := am (Ne.symm (IsS88.ne_blk hi (blk_below (bkn b) c) (by decide))); replace b := bm (blk_below (bkn b) c); (try clear hb c hi)) | ((with_reducible refine gate_callee (f := 34) rfl ?_); refine gl_ (some 5) Try.func34 #[.pointer (some ⟨x, 0, none⟩)] ?_; (with_reducible refine (spec_l71Any.calls k x q s t u G w _ ?z_1 ?z_2 I.out).mono ?_); (case z_1 => exact IsS88.now); (case z_2 => exact bn HB); rintro e w6 ⟨W, rfl, z, hi, hb, hk⟩; refine ⟨_, rfl, ?_⟩; replace b := kb hk b y; have A := am (Kd.R_lower z (below_size (bn HB))); replace HB := am hb; replace K := am hi; (try clear hb hk hi z); have X := n2 y L; have Y := c2 b; obtain ⟨M, O, P⟩ := Kd.R_slice A.out; subst P))
 refine bodyPost_ret (results_cell_row rfl _ _ J 25 #[.int .i64 t, .slice M u.length O] (0, 0) _ rfl (bkn b) Try.underlying25 rfl (by kernel_rfl)) rfl ?_; exact ⟨_, er_, Kd.R_mono (onR A) (fun _ hk => trivial), bn HB⟩

/-! ### spec_WayParts: function 97 -/
mutual
def spec_WayParts.l0 : Nat → List Int → Int → Int → List (S35) → Option (List Int)
 | 0, _, _, _, _ => none
 | k + 1, x3, x4, x487000, x487001 => if x4 < x487000 then ((spec_WayReach.f k x487000 x487001 x4).bind fun t491 => (spec_WayParts.l1 k x3 x4 t491 0 x487000 x487001)) else (some x3)
def spec_WayParts.l1 : Nat → List Int → Int → List Bool → Int → Int → List (S35) → Option (List Int)
 | 0, _, _, _, _, _, _ => none
 | k + 1, x3, x4, x5, x6, x487000, x487001 => if 0 ≤ x6 then (if x6 < (x5.length : Int) then (if rdOf false x5 x6 = true then (if x3.length < 17592186044416 then (spec_WayParts.l0 k (x3 ++ [x6]) (wrap64 (x4 + 1)) x487000 x487001) else (none)) else (spec_WayParts.l1 k x3 x4 x5 (wrap64 (x6 + 1)) x487000 x487001)) else (none)) else (none)
end
def spec_WayParts.f (k : Nat) (a0_0 : Int) (l0_1 : List (S35)) : Option (List Int) := (some (([] : List Int) : List Int)).bind fun y487 => ((spec_NetOk.f k a0_0 l0_1).bind fun t490 => (if t490 = true then (spec_WayParts.l0 k y487 0 a0_0 l0_1) else (some y487)))
theorem spec_WayParts.mono_l : ∀ k, (∀ a b c d, LeO (spec_WayParts.l0 k a b c d) (spec_WayParts.l0 (k + 1) a b c d)) ∧ (∀ a b c d e f, LeO (spec_WayParts.l1 k a b c d e f) (spec_WayParts.l1 (k + 1) a b c d e f))
 | 0 => ⟨fun _ _ _ _ r h => by simp [spec_WayParts.l0] at h, fun _ _ _ _ _ _ r h => by simp [spec_WayParts.l1] at h⟩
 | k + 1 => by
  obtain ⟨ih0, ih1⟩ := spec_WayParts.mono_l k; refine ⟨?_, ?_⟩
  ·intro a b c d; unfold spec_WayParts.l0; have g := @spec_NetOk.mono; have i := @spec_WayReach.mono; exact mo_
  ·intro a b c d e f; unfold spec_WayParts.l1; have g := @spec_NetOk.mono; have i := @spec_WayReach.mono; exact mo_
theorem spec_WayParts.mono : ∀ a b k, LeO (spec_WayParts.f k a b) (spec_WayParts.f (k + 1) a b) := by
 intro a b k; obtain ⟨ih0, ih1⟩ := spec_WayParts.mono_l k; unfold spec_WayParts.f; have m0_ := @spec_NetOk.mono; have m1_ := @spec_WayReach.mono; exact mo_
set_option maxHeartbeats 8000000 in
set_option maxRecDepth 100000 in
theorem spec_WayParts.calls (k : Nat) (d : Int) (m : Option Addr) (n : Nat) (a : List (S35)) (r : List Int) (w : World) (X : Kd.C k35 w m a.length a) (Y : a.length ≤ n) (h : spec_WayParts.f k d a = some r) :
  Calls Try.prog 97 #[.agg #[.int .i64 d, .slice m a.length n]] w fun e w' => ∃ Z : Value, e = .returned (Z) ∧ Kd.R (Kd.int .i64) 3 w' w.heap.size (fun _ => True) Z r ∧ Below w.heap.size w w' := by
 have aA := Try.underlying25; have I := am X; have J := am Y; clear X Y; have HB := am (Below.refl w.heap.size w)
 have H : ((some (([] : List Int) : List Int)).bind fun x => ((spec_NetOk.f k d a).bind fun y => (if y = true then (spec_WayParts.l0 k x 0 d a) else (some x)))) = some r := h
 clear h; obtain ⟨x, K⟩ : ∃ y_ : List Int, y_ = (([] : List Int)) := ⟨_, rfl⟩; replace H : ((spec_NetOk.f k d a).bind fun y => (if y = true then (spec_WayParts.l0 k x 0 d a) else (some x))) = some r := nh_ K H; have B := am K; clear K; obtain ⟨y, A2, H⟩ := bi_ H; by_cases D : y = true
 ·subst D; rw [if_pos rfl] at H; have H' := am H; clear H; go_enter Try.func97, Try.ntmps97
  go_wp2_with (first | ((with_reducible refine gate_dst (N := 1) rfl ?_); refine bx_ 1 #[.int .i64 d, .slice m a.length n] 25 HB ?_; clear HB; intro L hg w4 hb c aj HB; clear hb hg) | ((with_reducible refine gate_dst (N := 7) rfl ?_); refine Kd.R_lit (Kd.int .i64) _ 3 ?hg (N := 7) ?hd (xs := ([] : List Int)) (inner := []) (ok := fun _ => True) (okp := fun _ => True) ?hr ?hp (fun _ hk => hk) trivial (Below.refl _ _) (Nat.le_refl _) (by simp) ?_; (case hd => rfl); (case hg => rfl); (case hr => first | (go_simp; done) | (go_simp; rfl)); (case hp => exact (Reps.none _ _)); intro ak w5 z hb M O; clear M O; (first | rw [← B.out] at z | (simp only [Int.reduceToNat] at z; rw [← B.out] at z)); have o := am (Kd.R_lower z (below_size (bn HB))); replace c := bb c hb; replace HB := bs HB hb; clear hb z; have aa := c2 c) | ((with_reducible refine gate_callee (f := 13) rfl ?_); refine gl_ (some 9) Try.func13 #[.agg #[.int .i64 d, .slice m a.length n]] ?_; (with_reducible refine (spec_NetOk.calls k d _ _ a true _ ?z_1 ?z_2 A2.out).mono ?_); (case z_1 => exact cb I HB); (case z_2 => exact J.out); rintro e w8 ⟨rfl, hb⟩; refine ⟨_, rfl, ?_⟩; replace o := am (Kd.R_below (onR o) hb); replace c := bb c hb; replace HB := bs HB hb; (try clear hb)))
  go_loopg [3, 4] k (fun kq v3 v4 w' => ∃ (j : List Int) (i : Int), v4 = .int .i64 i ∧ Aside0 (spec_WayParts.l0 kq j i d a = some r) ∧ Aside0 (kq ≤ k) ∧ Aside0 (Kd.R (Kd.int .i64) 3 w' w.heap.size (fun _ => True) v3 j) ∧ Bk w' L (.cells #[.int .i64 d, (.slice m a.length n)] 25 (0, 0)) ∧ Aside0 (Below w.heap.size w w'))
  case atStart => exact ⟨(x), (0), rs_, H', ⟨Nat.le_refl _⟩, ⟨onR o⟩, ⟨bkn c⟩, ⟨bn HB⟩⟩
  case round =>
   clear H'; (try clear D aa); obtain ⟨j, i, rfl, HA, E, l, c, HB⟩ := hrel; cases gk with
   | zero => exact absurd HA.out (by simp [spec_WayParts.l0])
   | succ k1 =>
    have H := HA.out; clear HA; simp only [spec_WayParts.l0] at H; by_cases p : i < d
    ·rw [if_pos p] at H; have ab := decide_eq_true p; clear p; obtain ⟨q, al, H⟩ := bi_ H; have H' := am H; clear H; have an := c2 c
     go_wp2_with (first | ((with_reducible refine gate_callee (f := 38) rfl ?_); refine gl_ (some 20) Try.func38 #[.agg #[.int .i64 d, .slice m a.length n], .int .i64 i] ?_; (with_reducible refine (spec_WayReach.calls k1 d _ _ a i q _ ?z_1 ?z_2 al.out).mono ?_); (case z_1 => exact cb I HB); (case z_2 => exact J.out); rintro e w12 ⟨ap, rfl, ad, hb⟩; refine ⟨_, rfl, ?_⟩; replace l := am (Kd.R_below (onR l) hb); have aq := am (Kd.R_lower ad (below_size (bn HB))); replace c := bb c hb; replace HB := bs HB hb; (try clear hb ad)))
     go_loopg [6] k1 (fun kq v6 w' => ∃ (g : Int), v6 = .int .i64 g ∧ Aside0 (spec_WayParts.l1 kq j i q g d a = some r) ∧ Aside0 (kq ≤ k1) ∧ Aside0 (Kd.R (Kd.int .i64) 3 w' w.heap.size (fun _ => True) u3 j) ∧ Aside0 (Kd.R Kd.bool 4 w' w.heap.size (fun _ => True) ap q) ∧ Bk w' L (.cells #[.int .i64 d, (.slice m a.length n)] 25 (0, 0)) ∧ Aside0 (Below w.heap.size w w'))
     case atStart => exact ⟨(0), rs_, H', ⟨Nat.le_refl _⟩, ⟨onR l⟩, ⟨onR aq⟩, ⟨bkn c⟩, ⟨bn HB⟩⟩
     case round =>
      clear H'; (try clear D p ab an aa); obtain ⟨g, rfl, HA, G, l, s, c, HB⟩ := hrel; cases gk with
      | zero => exact absurd HA.out (by simp [spec_WayParts.l1])
      | succ k2 =>
       have H := HA.out; clear HA; simp only [spec_WayParts.l1] at H; obtain ⟨aC, H⟩ := id_ H; obtain ⟨aD, H⟩ := id_ H; obtain ⟨ae, P⟩ : ∃ b_ : Bool, b_ = (rdOf false q g) := ⟨_, rfl⟩; replace H : (if ae = true then (if j.length < 17592186044416 then (spec_WayParts.l0 k2 (j ++ [g]) (wrap64 (i + 1)) d a) else (none)) else (spec_WayParts.l1 k2 j i q (wrap64 (g + 1)) d a)) = some r := by rw [← P] at H; exact H
       have af := am P; clear P; by_cases ag : ae = true
       ·subst ag; rw [if_pos rfl] at H; obtain ⟨ah, H⟩ := ig_ H; have ar := am ah; clear ah; obtain ⟨ai, T⟩ : ∃ y_ : List Int, y_ = (j ++ [g]) := ⟨_, rfl⟩; replace H : (spec_WayParts.l0 k2 ai (wrap64 (i + 1)) d a) = some r := nh_ T H; have au := am T; clear T; have H' := am H; clear H; obtain ⟨aE, aG, av⟩ := Kd.R_slice s.out; subst av; have t : 0 ≤ (g : Int) := oa; have u : g < (q.length : Int) := oa; obtain ⟨aw, U, W⟩ := Kd.at_bool (Kd.R_reads' s.out).2.2 g t u; (try rw [← af.out] at W); cases U; obtain ⟨t, u⟩ := e2_ t u
        go_wp2_with (first | ((with_reducible refine gate_builtin (b := .append) (xs := #[.tmp 28, .tmp 30]) rfl ?_); at_builtin; refine Kd.R_append (Kd.int .i64) (w0 := w) w.heap.size rfl (.tmp 28) (.tmp 30) 36 3 (.int .i64 0) 8 rfl Try.underlying36 info3 rfl (by decide) (by omega) u3 j g [.int .i64 g] (fun _ => True) (fun _ => False) rfl rfl ?aP (fun _ hk => hk.elim) ?aF ?aO ?aB ?aS ?aL ?_; (case aP => exact rfl); (case aB => exact (bn HB)); (case aF => exact (fun _ _ => trivial)); (case aO => exact (onR l)); (case aS => exact (below_size (bn HB))); (case aL => have := ar.out; omega); intro aH w19 ho hb hg ax; rw [← au.out] at ho; replace s := am (Kd.R_over' (onR s) (Kd.R_typed (onR l)) (by decide) hg); replace c := bm (blk_grown (bkn c) hg (Kd.R_ne l.out c.out (by decide))); replace HB := am hb; have ay := am ho; clear l; clear ho hb hg ax))
        go_roundg k2
        case measure => have := E.out; have := G.out; omega
        case rel => exact ⟨(ai), (wrap64 (i + 1)), rs_, H', ⟨by have := E.out; have := G.out; omega⟩, ⟨onR ay⟩, ⟨bkn c⟩, ⟨bn HB⟩⟩
       ·obtain rfl := nt_ ag; rw [if_neg nf_] at H; have H' := am H; clear H; obtain ⟨aI, aJ, az⟩ := Kd.R_slice s.out; subst az; have t : 0 ≤ (g : Int) := oa; have u : g < (q.length : Int) := oa; obtain ⟨aw, U, W⟩ := Kd.at_bool (Kd.R_reads' s.out).2.2 g t u; (try rw [← af.out] at W); cases U; obtain ⟨t, u⟩ := e2_ t u; go_wp2
        go_roundg k2
        case measure => have := E.out; have := G.out; omega
        case rel => exact ⟨(wrap64 (g + 1)), rs_, H', ⟨by have := E.out; have := G.out; omega⟩, ⟨onR l⟩, ⟨onR s⟩, ⟨bkn c⟩, ⟨bn HB⟩⟩
    ·rw [if_neg p] at H; have ab := decide_eq_false p; clear p; obtain rfl := Option.some.inj H; have aK := c2 c; go_wp2
     go_ret
     exact ⟨_, er_, onR l, bn HB⟩
 ·obtain rfl := nt_ D; rw [if_neg nf_] at H; obtain rfl := Option.some.inj H; go_enter Try.func97, Try.ntmps97
  go_wp2_with (first | ((with_reducible refine gate_dst (N := 1) rfl ?_); refine bx_ 1 #[.int .i64 d, .slice m a.length n] 25 HB ?_; clear HB; intro L hg w22 hb c aj HB; clear hb hg) | ((with_reducible refine gate_dst (N := 7) rfl ?_); refine Kd.R_lit (Kd.int .i64) _ 3 ?hg (N := 7) ?hd (xs := ([] : List Int)) (inner := []) (ok := fun _ => True) (okp := fun _ => True) ?hr ?hp (fun _ hk => hk) trivial (Below.refl _ _) (Nat.le_refl _) (by simp) ?_; (case hd => rfl); (case hg => rfl); (case hr => first | (go_simp; done) | (go_simp; rfl)); (case hp => exact (Reps.none _ _)); intro ak w23 A hb M O; clear M O; (first | rw [← B.out] at A | (simp only [Int.reduceToNat] at A; rw [← B.out] at A)); have o := am (Kd.R_lower A (below_size (bn HB))); replace c := bb c hb; replace HB := bs HB hb; clear hb A; have aM := c2 c) | ((with_reducible refine gate_callee (f := 13) rfl ?_); refine gl_ (some 9) Try.func13 #[.agg #[.int .i64 d, .slice m a.length n]] ?_; (with_reducible refine (spec_NetOk.calls k d _ _ a false _ ?z_1 ?z_2 A2.out).mono ?_); (case z_1 => exact cb I HB); (case z_2 => exact J.out); rintro e w26 ⟨rfl, hb⟩; refine ⟨_, rfl, ?_⟩; replace o := am (Kd.R_below (onR o) hb); replace c := bb c hb; replace HB := bs HB hb; (try clear hb)))
  go_ret
  exact ⟨_, er_, onR o, bn HB⟩

/-! ### spec_WayCount: function 75 -/
def spec_WayCount.l0 : Nat → List Int → Int → Int → Option (Int)
 | 0, _, _, _ => none
 | k + 1, x3, x4, x5 => if x5 < (x3.length : Int) then (if 0 ≤ x5 then (if (rd x3 x5) = x5 then (spec_WayCount.l0 k x3 (wrap64 (x4 + 1)) (wrap64 (x5 + 1))) else (spec_WayCount.l0 k x3 x4 (wrap64 (x5 + 1)))) else (none)) else (some x4)
def spec_WayCount.f (k : Nat) (a0_0 : Int) (l0_1 : List (S35)) : Option (Int) := (spec_NetOk.f k a0_0 l0_1).bind fun t499 => (if t499 = true then ((spec_WayParts.f k a0_0 l0_1).bind fun t500 => (spec_WayCount.l0 k t500 0 0)) else (some (-1)))
theorem spec_WayCount.mono_l : ∀ k, (∀ a b c, LeO (spec_WayCount.l0 k a b c) (spec_WayCount.l0 (k + 1) a b c))
 | 0 => fun _ _ _ r h => by simp [spec_WayCount.l0] at h
 | k + 1 => by
  have ih0 := spec_WayCount.mono_l k
  ·intro a b c; unfold spec_WayCount.l0; have m0_ := @spec_NetOk.mono; have m1_ := @spec_WayParts.mono; exact mo_
theorem spec_WayCount.mono : ∀ a b k, LeO (spec_WayCount.f k a b) (spec_WayCount.f (k + 1) a b) := by
 intro a b k; have ih0 := spec_WayCount.mono_l k; unfold spec_WayCount.f; have m0_ := @spec_NetOk.mono; have m1_ := @spec_WayParts.mono; exact mo_
set_option maxHeartbeats 8000000 in
set_option maxRecDepth 100000 in
theorem spec_WayCount.calls (k : Nat) (d : Int) (i : Option Addr) (j : Nat) (b : List (S35)) (r : Int) (w : World) (A : Kd.C k35 w i b.length b) (B : b.length ≤ j) (h : spec_WayCount.f k d b = some r) :
  Calls Try.prog 75 #[.agg #[.int .i64 d, .slice i b.length j]] w fun e w' => e = .returned (.int .i64 r) ∧ Below w.heap.size w w' := by
 have ae := Try.underlying25; have t := am A; have u := am B; clear A B; have HB := am (Below.refl w.heap.size w)
 have H : ((spec_NetOk.f k d b).bind fun x => (if x = true then ((spec_WayParts.f k d b).bind fun g => (spec_WayCount.l0 k g 0 0)) else (some (-1)))) = some r := h
 clear h; obtain ⟨x, D, H⟩ := bi_ H; by_cases y : x = true
 ·subst y; rw [if_pos rfl] at H; obtain ⟨g, I, H⟩ := bi_ H; have H' := am H; clear H; go_enter Try.func75, Try.ntmps75
  go_wp2_with (first | ((with_reducible refine gate_dst (N := 1) rfl ?_); refine bx_ 1 #[.int .i64 d, .slice i b.length j] 25 HB ?_; clear HB; intro E hg w5 hb c J HB; clear hb hg; have K := c2 c) | ((with_reducible refine gate_callee (f := 13) rfl ?_); refine gl_ (some 7) Try.func13 #[.agg #[.int .i64 d, .slice i b.length j]] ?_; (with_reducible refine (spec_NetOk.calls k d _ _ b true _ ?z_1 ?z_2 D.out).mono ?_); (case z_1 => exact cb t HB); (case z_2 => exact u.out); rintro e w7 ⟨rfl, hb⟩; refine ⟨_, rfl, ?_⟩; replace c := bb c hb; replace HB := bs HB hb; (try clear hb); have L := c2 c) | ((with_reducible refine gate_callee (f := 97) rfl ?_); refine gl_ (some 10) Try.func97 #[.agg #[.int .i64 d, .slice i b.length j]] ?_; (with_reducible refine (spec_WayParts.calls k d _ _ b g _ ?z_1 ?z_2 I.out).mono ?_); (case z_1 => exact cb t HB); (case z_2 => exact u.out); rintro e w9 ⟨M, rfl, G, hb⟩; refine ⟨_, rfl, ?_⟩; have O := am (Kd.R_lower G (below_size (bn HB))); replace c := bb c hb; replace HB := bs HB hb; (try clear hb G)))
  go_loopg [4, 5] k (fun kq P T w' => ∃ (q : Int) (a : Int), P = .int .i64 q ∧ T = .int .i64 a ∧ Aside0 (spec_WayCount.l0 kq g q a = some r) ∧ Aside0 (kq ≤ k) ∧ Aside0 (Kd.R (Kd.int .i64) 3 w' w.heap.size (fun _ => True) M g) ∧ Bk w' E (.cells #[.int .i64 d, (.slice i b.length j)] 25 (0, 0)) ∧ Aside0 (Below w.heap.size w w'))
  case atStart => exact ⟨(0), (0), rs_, rs_, H', ⟨Nat.le_refl _⟩, ⟨onR O⟩, ⟨bkn c⟩, ⟨bn HB⟩⟩
  case round =>
   clear H'; (try clear y K L); obtain ⟨q, a, rfl, rfl, HA, s, l, c, HB⟩ := hrel; cases gk with
   | zero => exact absurd HA.out (by simp [spec_WayCount.l0])
   | succ k1 =>
    have H := HA.out; clear HA; simp only [spec_WayCount.l0] at H; by_cases p : a < (g.length : Int)
    ·rw [if_pos p] at H; have U := decide_eq_true p; clear p; obtain ⟨af, H⟩ := id_ H; by_cases m : (rd g a) = a
     ·rw [if_pos m] at H; have W : ((rd g a) == a) = true := beq_iff_eq.mpr m; have X : ((rd g a) != a) = false := bne_eq_false_iff_eq.mpr m; clear m; have H' := am H; clear H; obtain ⟨ag, ah, Y⟩ := Kd.R_slice l.out; subst Y; have n : 0 ≤ (a : Int) := oa; have o : a < (g.length : Int) := oa; obtain ⟨Z, z, aa⟩ := Kd.at_int (Kd.R_reads' l.out).2.2 a n o; cases z; obtain ⟨n, o⟩ := e2_ n o; go_wp2
      go_roundg k1
      case measure => have := s.out; omega
      case rel => exact ⟨(wrap64 (q + 1)), (wrap64 (a + 1)), rs_, rs_, H', ⟨by have := s.out; omega⟩, ⟨onR l⟩, ⟨bkn c⟩, ⟨bn HB⟩⟩
     ·rw [if_neg m] at H; have W : ((rd g a) == a) = false := beq_eq_false_iff_ne.mpr m; have X : ((rd g a) != a) = true := bne_iff_ne.mpr m; have H' := am H; clear H; obtain ⟨ai, aj, ab⟩ := Kd.R_slice l.out; subst ab; have n : 0 ≤ (a : Int) := oa; have o : a < (g.length : Int) := oa; obtain ⟨Z, z, aa⟩ := Kd.at_int (Kd.R_reads' l.out).2.2 a n o; cases z; obtain ⟨n, o⟩ := e2_ n o; go_wp2
      go_roundg k1
      case measure => have := s.out; omega
      case rel => exact ⟨(q), (wrap64 (a + 1)), rs_, rs_, H', ⟨by have := s.out; omega⟩, ⟨onR l⟩, ⟨bkn c⟩, ⟨bn HB⟩⟩
    ·rw [if_neg p] at H; have U := decide_eq_false p; clear p; obtain rfl := Option.some.inj H; obtain ⟨ak, al, ad⟩ := Kd.R_slice l.out; subst ad; go_wp2
     go_ret
     exact ⟨er_, bn HB⟩
 ·obtain rfl := nt_ y; rw [if_neg nf_] at H; obtain rfl := Option.some.inj H; go_enter Try.func75, Try.ntmps75
  go_wp2_with (first | ((with_reducible refine gate_dst (N := 1) rfl ?_); refine bx_ 1 #[.int .i64 d, .slice i b.length j] 25 HB ?_; clear HB; intro E hg w16 hb c J HB; clear hb hg; have an := c2 c) | ((with_reducible refine gate_callee (f := 13) rfl ?_); refine gl_ (some 7) Try.func13 #[.agg #[.int .i64 d, .slice i b.length j]] ?_; (with_reducible refine (spec_NetOk.calls k d _ _ b false _ ?z_1 ?z_2 D.out).mono ?_); (case z_1 => exact cb t HB); (case z_2 => exact u.out); rintro e w18 ⟨rfl, hb⟩; refine ⟨_, rfl, ?_⟩; replace c := bb c hb; replace HB := bs HB hb; (try clear hb)))
  go_ret
  exact ⟨er_, bn HB⟩

/-! ### spec_BridgeIs: function 44 -/
def spec_BridgeIs.f (k : Nat) (a0_0 : Int) (l0_1 : List (S35)) (a1 : Int) (a2 : Int) : Option (Bool) := (spec_NetCut.f k a0_0 l0_1 a1 a2).bind fun bt505 => (if bt505.2.2 = true then ((spec_WayCount.f k bt505.1 bt505.2.1).bind fun t511 => ((spec_WayCount.f k a0_0 l0_1).bind fun t512 => (some (decide (t511 > t512))))) else (some false))
theorem spec_BridgeIs.mono : ∀ a b c d k, LeO (spec_BridgeIs.f k a b c d) (spec_BridgeIs.f (k + 1) a b c d) := by
 intro a b c d k; unfold spec_BridgeIs.f; have m0_ := @spec_NetCut.mono; have m1_ := @spec_WayCount.mono; exact mo_
def spec_BridgeIs.T2 : Bool × List (List Nat × List Nat) := (true, [([], []), ([0], [0]), ([1], [1]), ([2, 1, 1], [1, 2]), ([1], [1]), ([4, 3, 1], [1, 4]), ([3, 5, 1], [1, 3, 5]), ([1, 6], [1, 6]), ([7, 5, 0, 1, 2, 3, 4, 5, 6, 7], [7])])
def spec_BridgeIs.B2 : List Nat := [0, 1, 3, 7, 3, 31, 63, 127, 255]
theorem spec_BridgeIs.tab2 : rtab .any (opsOf Try.f44 2) = spec_BridgeIs.T2 := by kernel_rfl
theorem spec_BridgeIs.bits2 : waitsOk spec_BridgeIs.T2.2 spec_BridgeIs.B2 = true := by kernel_rfl
set_option maxHeartbeats 8000000 in
set_option maxRecDepth 100000 in
theorem spec_BridgeIs.calls (k : Nat) (j : Int) (m : Option Addr) (n : Nat) (g : List (S35)) (o : Int) (p : Int) (r : Bool) (w : World) (L : Kd.C k35 w m g.length g) (M : g.length ≤ n) (h : spec_BridgeIs.f k j g o p = some r) :
  Calls Try.prog 44 #[.agg #[.int .i64 j, .slice m g.length n], .int .i64 o, .int .i64 p] w fun e w' => e = .returned (.bool r) ∧ Below w.heap.size w w' := by
 have aj := Try.underlying25; have x := am L; have y := am M; clear L M; have HB := am (Below.refl w.heap.size w)
 have H : ((spec_NetCut.f k j g o p).bind fun z => (if z.2.2 = true then ((spec_WayCount.f k z.1 z.2.1).bind fun A => ((spec_WayCount.f k j g).bind fun B => (some (decide (A > B))))) else (some false))) = some r := h
 clear h; obtain ⟨⟨s, l, Y⟩, O, H⟩ := bi_ H; (try dsimp only at H); by_cases P : Y = true
 ·subst P; rw [if_pos rfl] at H; obtain ⟨A, Z, H⟩ := bi_ H; obtain ⟨B, A7, H⟩ := bi_ H; obtain rfl := Option.some.inj H; go_enter Try.func44, Try.ntmps44
  try go_wp2_with (first | ((with_reducible refine gate_dst (N := 3) rfl ?_); refine bx_ 3 #[.int .i64 j, .slice m g.length n] 25 HB ?_; clear HB; intro aa hg w8 hb a ab HB; clear hb hg; have ak := c2 a) | ((with_reducible refine gate_callee (f := 58) rfl ?_); refine gl_ (some 13) Try.func58 #[.agg #[.int .i64 j, .slice m g.length n], .int .i64 o, .int .i64 p] ?_; (with_reducible refine (spec_NetCut.calls k j _ _ g o p s l true _ ?z_1 ?z_2 O.out).mono ?_); (case z_1 => exact cb x HB); (case z_2 => exact y.out); rintro e w10 ⟨ad, rfl, t, hb⟩; refine ⟨_, rfl, ?_⟩; have b := am (Kd.R_lower t (below_size (bn HB))); replace a := bb a hb; replace HB := bs HB hb; (try clear hb t)) | ((with_reducible refine gate_dst (N := 7) rfl ?_); refine bx_ 7 #[.int .i64 0, .slice none 0 0] 25 HB ?_; clear HB; intro u hg ae hb d af HB; replace b := am (Kd.R_below (onR b) hb); obtain ⟨D, E⟩ := nb_ hg a; replace a := bb a hb; clear hb hg; have al := n2 E D; have an := c2 d; obtain ⟨G, I, ag⟩ := Kd.R_slice b.out; subst ag))
  obtain ⟨T, i⟩ := nw_ ((ae.setCell ⟨u, 0, none⟩ (.int .i64 s)).setCell ⟨u, 1, none⟩ (.slice G l.length I)); replace b : Aside0 (Kd.R k35 35 T w.heap.size (fun _ => True) (.slice G l.length I) l) := (by rw [i]; exact ⟨Kd.R_mono (onR b) (fun _ hk => trivial)⟩); replace b := dR b; replace a := tD i a; replace d := tD i d; replace HB := tM i HB; rw [← i]; clear i; refine s4_ 9 [] (bq d 0) (bq d 1) (bq a 0) (bq a 1) (fun q => ?_); refine with_tabW spec_BridgeIs.tab2 spec_BridgeIs.bits2 (fun c J => ?_); generalize T.drew = w16 at b a d HB q ⊢; refine pz_ 0 c ?_; refine pz_ 1 c ?_; refine tz_ 2 c J q ?_; refine tz_ 4 c J q ?_; refine on_ 3 c (fun K hK => ?_); refine gg_ Try.func75 #[.agg #[.int .i64 s, .slice G l.length I]] ?_
  with_reducible refine (spec_WayCount.calls k s _ _ l A _ ?z_1 ?z_2 Z.out).mono ?_
  (case z_1 => exact (Kd.R_reads' (onR b)).2.2); (case z_2 => exact (Kd.R_reads' b.out).2.1); rintro e w17 ⟨rfl, hb⟩; refine ⟨_, rfl, ?_⟩; replace b := am (Kd.R_below (onR b) hb); replace a := bb a hb; replace d := bb d hb; replace HB := bs HB hb; (try clear hb hk); refine hK.out _ _ ⟨(bc d 0), (bc d 1), (bc a 0), (bc a 1)⟩ (fun q => ?_); clear hK K; refine nz_ 19 ?_; refine on_ 5 c (fun K hK => ?_); refine gg_ Try.func75 #[.agg #[.int .i64 j, .slice m g.length n]] ?_
  with_reducible refine (spec_WayCount.calls k j _ _ g B _ ?z_1 ?z_2 A7.out).mono ?_
  (case z_1 => exact cb x HB); (case z_2 => exact y.out); rintro e w18 ⟨rfl, hb⟩; refine ⟨_, rfl, ?_⟩; replace b := am (Kd.R_below (onR b) hb); replace a := bb a hb; replace d := bb d hb; replace HB := bs HB hb; (try clear hb hk); refine hK.out _ _ ⟨(bc d 0), (bc d 1), (bc a 0), (bc a 1)⟩ (fun q => ?_); clear hK K; refine nz_ 21 ?_; refine pz_ 6 c ?_; refine pz_ 7 c ?_; refine pz_ 8 c ?_; refine done_ (done_of c.out (by kernel_rfl)) ?_; try go_wp2
  go_ret
  exact ⟨er_, bn HB⟩
 ·obtain rfl := nt_ P; rw [if_neg nf_] at H; obtain rfl := Option.some.inj H; go_enter Try.func44, Try.ntmps44
  try go_wp2_with (first | ((with_reducible refine gate_dst (N := 3) rfl ?_); refine bx_ 3 #[.int .i64 j, .slice m g.length n] 25 HB ?_; clear HB; intro aa hg w19 hb a ab HB; clear hb hg; have ap := c2 a) | ((with_reducible refine gate_callee (f := 58) rfl ?_); refine gl_ (some 13) Try.func58 #[.agg #[.int .i64 j, .slice m g.length n], .int .i64 o, .int .i64 p] ?_; (with_reducible refine (spec_NetCut.calls k j _ _ g o p s l false _ ?z_1 ?z_2 O.out).mono ?_); (case z_1 => exact cb x HB); (case z_2 => exact y.out); rintro e w21 ⟨ad, rfl, t, hb⟩; refine ⟨_, rfl, ?_⟩; have b := am (Kd.R_lower t (below_size (bn HB))); replace a := bb a hb; replace HB := bs HB hb; (try clear hb t)) | ((with_reducible refine gate_dst (N := 7) rfl ?_); refine bx_ 7 #[.int .i64 0, .slice none 0 0] 25 HB ?_; clear HB; intro u hg ah hb d af HB; replace b := am (Kd.R_below (onR b) hb); obtain ⟨D, E⟩ := nb_ hg a; replace a := bb a hb; clear hb hg; have aq := n2 E D; have ar := c2 d; obtain ⟨U, W, ai⟩ := Kd.R_slice b.out; subst ai))
  obtain ⟨X, i⟩ := nw_ ((ah.setCell ⟨u, 0, none⟩ (.int .i64 s)).setCell ⟨u, 1, none⟩ (.slice U l.length W)); replace b : Aside0 (Kd.R k35 35 X w.heap.size (fun _ => True) (.slice U l.length W) l) := (by rw [i]; exact ⟨Kd.R_mono (onR b) (fun _ hk => trivial)⟩); replace b := dR b; replace a := tD i a; replace d := tD i d; replace HB := tM i HB; rw [← i]; clear i; refine st_ 9 (S := fun w' => True) (ds := []) trivial (fun q => ?_); refine with_tabW spec_BridgeIs.tab2 spec_BridgeIs.bits2 (fun c J => ?_); generalize X.drew = w27 at b a d HB q ⊢; refine pz_ 0 c ?_; refine pz_ 1 c ?_; refine pu_ 2 c ?_; refine pu_ 3 c ?_; refine pu_ 4 c ?_; refine pu_ 5 c ?_; refine pu_ 6 c ?_; refine pz_ 7 c ?_; refine pz_ 8 c ?_; refine done_ (done_of c.out (by kernel_rfl)) ?_; try go_wp2
  go_ret
  exact ⟨er_, bn HB⟩

/-! ### spec_BridgeList: function 17 -/
def spec_BridgeList.l0 : Nat → List (S35) → Int → Int → List (S35) → Option ((List (S35)))
 | 0, _, _, _, _ => none
 | k + 1, x3, x4, x514000, x514001 => if x4 < (x514001.length : Int) then (if 0 ≤ x4 then ((spec_BridgeIs.f k x514000 x514001 ((rd_T35 x514001 x4).f0) ((rd_T35 x514001 x4).f1)).bind fun t520 => (if t520 = true then (if x3.length < 8796093022208 then (spec_BridgeList.l0 k (x3 ++ [(⟨(rd_T35 x514001 x4).f0, (rd_T35 x514001 x4).f1⟩ : S35)]) (wrap64 (x4 + 1)) x514000 x514001) else (none)) else (spec_BridgeList.l0 k x3 (wrap64 (x4 + 1)) x514000 x514001))) else (none)) else (some x3)
def spec_BridgeList.f (k : Nat) (a0_0 : Int) (l0_1 : List (S35)) : Option ((List (S35))) := (some (([] : List (S35)) : List (S35))).bind fun y514 => ((spec_NetOk.f k a0_0 l0_1).bind fun t517 => (if t517 = true then (spec_BridgeList.l0 k y514 0 a0_0 l0_1) else (some y514)))
theorem spec_BridgeList.mono_l : ∀ k, (∀ a b c d, LeO (spec_BridgeList.l0 k a b c d) (spec_BridgeList.l0 (k + 1) a b c d))
 | 0 => fun _ _ _ _ r h => by simp [spec_BridgeList.l0] at h
 | k + 1 => by
  have ih0 := spec_BridgeList.mono_l k
  ·intro a b c d; unfold spec_BridgeList.l0; have m0_ := @spec_BridgeIs.mono; have m1_ := @spec_NetOk.mono; exact mo_
theorem spec_BridgeList.mono : ∀ a b k, LeO (spec_BridgeList.f k a b) (spec_BridgeList.f (k + 1) a b) := by
 intro a b k; have ih0 := spec_BridgeList.mono_l k; unfold spec_BridgeList.f; have m0_ := @spec_BridgeIs.mono; have m1_ := @spec_NetOk.mono; exact mo_
def spec_BridgeList.T7 : Bool × List (List Nat × List Nat) := (true, [([], []), ([], []), ([1], [1]), ([], []), ([2, 3], [2, 3]), ([4], [4]), ([5], [5]), ([], []), ([7], [7]), ([], []), ([8, 9], [8, 9]), ([10], [10]), ([11], [11]), ([0, 6, 12], [0, 6, 12])])
def spec_BridgeList.B7 : List Nat := [0, 0, 2, 0, 14, 30, 62, 0, 128, 0, 896, 1920, 3968, 8191]
theorem spec_BridgeList.tab7 : rtab .any (opsOf Try.f17 7) = spec_BridgeList.T7 := by kernel_rfl
theorem spec_BridgeList.bits7 : waitsOk spec_BridgeList.T7.2 spec_BridgeList.B7 = true := by kernel_rfl
set_option maxHeartbeats 8000000 in
set_option maxRecDepth 100000 in
theorem spec_BridgeList.calls (k : Nat) (i : Int) (u : Option Addr) (n : Nat) (a : List (S35)) (r : List (S35)) (w : World) (aj : Kd.C k35 w u a.length a) (ak : a.length ≤ n) (h : spec_BridgeList.f k i a = some r) :
  Calls Try.prog 17 #[.agg #[.int .i64 i, .slice u a.length n]] w fun e w' => ∃ al : Value, e = .returned (al) ∧ Kd.R k35 35 w' w.heap.size (fun _ => True) al r ∧ Below w.heap.size w w' := by
 have aK := Try.underlying25; have aM := Try.underlying35; have o := am aj; have W := am ak; clear aj ak; have HB := am (Below.refl w.heap.size w)
 have H : ((some (([] : List (S35)) : List (S35))).bind fun D => ((spec_NetOk.f k i a).bind fun J => (if J = true then (spec_BridgeList.l0 k D 0 i a) else (some D)))) = some r := h
 clear h; obtain ⟨D, Z⟩ : ∃ y_ : List (S35), y_ = (([] : List (S35))) := ⟨_, rfl⟩; replace H : ((spec_NetOk.f k i a).bind fun J => (if J = true then (spec_BridgeList.l0 k D 0 i a) else (some D))) = some r := nh_ Z H; have X := am Z; clear Z; obtain ⟨J, A2, H⟩ := bi_ H; by_cases c3 : J = true
 ·subst c3; rw [if_pos rfl] at H; have H' := am H; clear H; go_enter Try.func17, Try.ntmps17
  go_wp2_with (first | ((with_reducible refine gate_dst (N := 1) rfl ?_); refine bx_ 1 #[.int .i64 i, .slice u a.length n] 25 HB ?_; clear HB; intro an hg w4 hb c ax HB; clear hb hg) | ((with_reducible refine gate_dst (N := 5) rfl ?_); refine Kd.R_lit k35 _ 35 ?hg (N := 5) ?hd (xs := ([] : List (S35))) (inner := []) (ok := fun _ => True) (okp := fun _ => True) ?hr ?hp (fun _ hk => hk) trivial (Below.refl _ _) (Nat.le_refl _) (by simp) ?_; (case hd => rfl); (case hg => rfl); (case hr => first | (go_simp; done) | (go_simp; rfl)); (case hp => exact (Reps.none _ _)); intro ay w5 L hb aa ab; clear aa ab; (first | rw [← X.out] at L | (simp only [Int.reduceToNat] at L; rw [← X.out] at L)); have x := am (Kd.R_lower L (below_size (bn HB))); replace c := bb c hb; replace HB := bs HB hb; clear hb L; have az := c2 c) | ((with_reducible refine gate_callee (f := 13) rfl ?_); refine gl_ (some 7) Try.func13 #[.agg #[.int .i64 i, .slice u a.length n]] ?_; (with_reducible refine (spec_NetOk.calls k i _ _ a true _ ?z_1 ?z_2 A2.out).mono ?_); (case z_1 => exact cb o HB); (case z_2 => exact W.out); rintro e w8 ⟨rfl, hb⟩; refine ⟨_, rfl, ?_⟩; replace x := am (Kd.R_below (onR x) hb); replace c := bb c hb; replace HB := bs HB hb; (try clear hb)))
  go_loopg [3, 4] k (fun kq v3 v4 w' => ∃ (E : List (S35)) (d : Int), v4 = .int .i64 d ∧ Aside0 (spec_BridgeList.l0 kq E d i a = some r) ∧ Aside0 (kq ≤ k) ∧ Aside0 (Kd.R k35 35 w' w.heap.size (fun _ => True) v3 E) ∧ Bk w' an (.cells #[.int .i64 i, (.slice u a.length n)] 25 (0, 0)) ∧ Aside0 (Below w.heap.size w w'))
  case atStart => exact ⟨(D), (0), rs_, H', ⟨Nat.le_refl _⟩, ⟨onR x⟩, ⟨bkn c⟩, ⟨bn HB⟩⟩
  case round =>
   clear H'; (try clear c3 az); obtain ⟨E, d, rfl, HA, Y, j, c, HB⟩ := hrel; cases gk with
   | zero => exact absurd HA.out (by simp [spec_BridgeList.l0])
   | succ k1 =>
    have H := HA.out; clear HA; simp only [spec_BridgeList.l0] at H; by_cases G : d < (a.length : Int)
    ·rw [if_pos G] at H; have aA := decide_eq_true G; clear G; obtain ⟨aN, H⟩ := id_ H; obtain ⟨aC, ap, H⟩ := bi_ H; by_cases aq : aC = true
     ·subst aq; rw [if_pos rfl] at H; obtain ⟨ar, H⟩ := ig_ H; have aD := am ar; clear ar; obtain ⟨au, ad⟩ : ∃ y_ : List (S35), y_ = (E ++ [(⟨(rd_T35 a d).f0, (rd_T35 a d).f1⟩ : S35)]) := ⟨_, rfl⟩; replace H : (spec_BridgeList.l0 k1 au (wrap64 (d + 1)) i a) = some r := nh_ ad H; have aE := am ad; clear ad; have H' := am H; clear H; have aQ := c2 c; try go_wp2
      replace j := dR j; replace c := dB c; replace HB := dL HB; have y : 0 ≤ (d : Int) := oa; have z : d < (a.length : Int) := oa; obtain ⟨I, ae, p, q⟩ := at_T35 o.out d y z; have M := q; have O := p; cases ae; replace p := hc_ HB p; replace q := hc_ HB q; obtain ⟨y, z⟩ := e2_ y z; have A : 0 ≤ (d : Int) := oa; have B : d < (a.length : Int) := oa; obtain ⟨af, ag, s, t⟩ := at_T35 o.out d A B; have P := t; have T := s; obtain rfl : I = af := (by injection ag); replace s := hc_ HB s; replace t := hc_ HB t; obtain ⟨A, B⟩ := e2_ A B; refine s6_ 14 [] (bq c 0) (bq c 1) (hb_ HB O) (hb_ HB M) (hb_ HB T) (hb_ HB P) (fun l => ?_); refine with_tabW spec_BridgeList.tab7 spec_BridgeList.bits7 (fun g m => ?_); generalize wr.drew = w15 at j c HB p q s t l ⊢; refine pz_ 1 g ?_; refine pz_ 3 g ?_; refine pz_ 7 g ?_; refine pz_ 9 g ?_; refine tz_ 0 g m l ?_; refine tz_ 2 g m l ?_; refine pz_ 4 g ?_; refine pz_ 5 g ?_; refine tz_ 6 g m l ?_; refine tz_ 8 g m l ?_; refine pz_ 10 g ?_; refine pz_ 11 g ?_; refine tz_ 12 g m l ?_; refine on_ 13 g (fun K hK => ?_); refine gg_ Try.func44 #[.agg #[.int .i64 i, .slice (some I) a.length n], .int .i64 ((rd_T35 a d).f0), .int .i64 ((rd_T35 a d).f1)] ?_
      with_reducible refine (spec_BridgeIs.calls k1 i _ _ a ((rd_T35 a d).f0) ((rd_T35 a d).f1) true _ ?z_1 ?z_2 ap.out).mono ?_
      (case z_1 => exact cb o HB); (case z_2 => exact W.out); rintro e w16 ⟨rfl, hb⟩; refine ⟨_, rfl, ?_⟩; replace j := am (Kd.R_below (onR j) hb); replace c := bb c hb; replace HB := bs HB hb; (try clear hb hk); refine hK.out _ _ ⟨(bc c 0), (bc c 1), (hb_ HB O), (hb_ HB M), (hb_ HB T), (hb_ HB P)⟩ (fun l => ?_); clear hK K; refine nz_ 30 ?_; refine done_ (done_of g.out (by kernel_rfl)) ?_; have aR := c2 c; have ah : 0 ≤ (d : Int) := oa; have ai : d < (a.length : Int) := oa; obtain ⟨aG, aH, av, aw⟩ := at_T35 o.out d ah ai; obtain rfl : I = aG := (by injection aH); replace av := hc_ HB av; replace aw := hc_ HB aw; obtain ⟨ah, ai⟩ := e2_ ah ai
      try go_wp2_with (first | ((with_reducible refine gate_builtin (b := .append) (xs := #[.tmp 31, .tmp 37]) rfl ?_); at_builtin; refine Kd.R_append k35 (w0 := w) w.heap.size rfl (.tmp 31) (.tmp 37) 23 35 (.agg #[(.int .i64 0), (.int .i64 0)]) 16 rfl Try.underlying23 info35 rfl (by decide) (by omega) u3 E (⟨(rd_T35 a d).f0, (rd_T35 a d).f1⟩ : S35) [.int .i64 ((rd_T35 a d).f0), .int .i64 ((rd_T35 a d).f1)] (fun _ => True) (fun _ => False) rfl rfl ?aP (fun _ hk => hk.elim) ?aF ?aO ?aB ?aS ?aL ?_; (case aP => exact k35_mkM _ _ _ (⟨(rd_T35 a d).f0, (rd_T35 a d).f1⟩ : S35)); (case aB => exact (bn HB)); (case aF => exact (fun _ _ => trivial)); (case aO => exact (onR j)); (case aS => exact (below_size (bn HB))); (case aL => have := aD.out; omega); intro aT w18 ho hb hg aI; rw [← aE.out] at ho; replace c := bm (blk_grown (bkn c) hg (Kd.R_ne j.out c.out (by decide))); replace HB := am hb; have aJ := am ho; clear j; clear ho hb hg aI))
      go_roundg k1
      case measure => have := Y.out; omega
      case rel => exact ⟨(au), (wrap64 (d + 1)), rs_, H', ⟨by have := Y.out; omega⟩, ⟨onR aJ⟩, ⟨bkn c⟩, ⟨bn HB⟩⟩
     ·obtain rfl := nt_ aq; rw [if_neg nf_] at H; have H' := am H; clear H; have aU := c2 c; try go_wp2
      replace j := dR j; replace c := dB c; replace HB := dL HB; have y : 0 ≤ (d : Int) := oa; have z : d < (a.length : Int) := oa; obtain ⟨I, ae, p, q⟩ := at_T35 o.out d y z; have M := q; have O := p; cases ae; replace p := hc_ HB p; replace q := hc_ HB q; obtain ⟨y, z⟩ := e2_ y z; have A : 0 ≤ (d : Int) := oa; have B : d < (a.length : Int) := oa; obtain ⟨af, ag, s, t⟩ := at_T35 o.out d A B; have P := t; have T := s; obtain rfl : I = af := (by injection ag); replace s := hc_ HB s; replace t := hc_ HB t; obtain ⟨A, B⟩ := e2_ A B; refine s6_ 14 [] (bq c 0) (bq c 1) (hb_ HB O) (hb_ HB M) (hb_ HB T) (hb_ HB P) (fun l => ?_); refine with_tabW spec_BridgeList.tab7 spec_BridgeList.bits7 (fun g m => ?_); generalize wr.drew = w20 at j c HB p q s t l ⊢; refine pz_ 1 g ?_; refine pz_ 3 g ?_; refine pz_ 7 g ?_; refine pz_ 9 g ?_; refine tz_ 0 g m l ?_; refine tz_ 2 g m l ?_; refine pz_ 4 g ?_; refine pz_ 5 g ?_; refine tz_ 6 g m l ?_; refine tz_ 8 g m l ?_; refine pz_ 10 g ?_; refine pz_ 11 g ?_; refine tz_ 12 g m l ?_; refine on_ 13 g (fun K hK => ?_); refine gg_ Try.func44 #[.agg #[.int .i64 i, .slice (some I) a.length n], .int .i64 ((rd_T35 a d).f0), .int .i64 ((rd_T35 a d).f1)] ?_
      with_reducible refine (spec_BridgeIs.calls k1 i _ _ a ((rd_T35 a d).f0) ((rd_T35 a d).f1) false _ ?z_1 ?z_2 ap.out).mono ?_
      (case z_1 => exact cb o HB); (case z_2 => exact W.out); rintro e w21 ⟨rfl, hb⟩; refine ⟨_, rfl, ?_⟩; replace j := am (Kd.R_below (onR j) hb); replace c := bb c hb; replace HB := bs HB hb; (try clear hb hk); refine hK.out _ _ ⟨(bc c 0), (bc c 1), (hb_ HB O), (hb_ HB M), (hb_ HB T), (hb_ HB P)⟩ (fun l => ?_); clear hK K; refine nz_ 30 ?_; refine done_ (done_of g.out (by kernel_rfl)) ?_; try go_wp2
      go_roundg k1
      case measure => have := Y.out; omega
      case rel => exact ⟨(E), (wrap64 (d + 1)), rs_, H', ⟨by have := Y.out; omega⟩, ⟨onR j⟩, ⟨bkn c⟩, ⟨bn HB⟩⟩
    ·rw [if_neg G] at H; have aA := decide_eq_false G; clear G; obtain rfl := Option.some.inj H; have aV := c2 c; go_wp2
     go_ret
     exact ⟨_, er_, onR j, bn HB⟩
 ·obtain rfl := nt_ c3; rw [if_neg nf_] at H; obtain rfl := Option.some.inj H; go_enter Try.func17, Try.ntmps17
  go_wp2_with (first | ((with_reducible refine gate_dst (N := 1) rfl ?_); refine bx_ 1 #[.int .i64 i, .slice u a.length n] 25 HB ?_; clear HB; intro an hg w23 hb c ax HB; clear hb hg) | ((with_reducible refine gate_dst (N := 5) rfl ?_); refine Kd.R_lit k35 _ 35 ?hg (N := 5) ?hd (xs := ([] : List (S35))) (inner := []) (ok := fun _ => True) (okp := fun _ => True) ?hr ?hp (fun _ hk => hk) trivial (Below.refl _ _) (Nat.le_refl _) (by simp) ?_; (case hd => rfl); (case hg => rfl); (case hr => first | (go_simp; done) | (go_simp; rfl)); (case hp => exact (Reps.none _ _)); intro ay w24 U hb aa ab; clear aa ab; (first | rw [← X.out] at U | (simp only [Int.reduceToNat] at U; rw [← X.out] at U)); have x := am (Kd.R_lower U (below_size (bn HB))); replace c := bb c hb; replace HB := bs HB hb; clear hb U; have aW := c2 c) | ((with_reducible refine gate_callee (f := 13) rfl ?_); refine gl_ (some 7) Try.func13 #[.agg #[.int .i64 i, .slice u a.length n]] ?_; (with_reducible refine (spec_NetOk.calls k i _ _ a false _ ?z_1 ?z_2 A2.out).mono ?_); (case z_1 => exact cb o HB); (case z_2 => exact W.out); rintro e w27 ⟨rfl, hb⟩; refine ⟨_, rfl, ?_⟩; replace x := am (Kd.R_below (onR x) hb); replace c := bb c hb; replace HB := bs HB hb; (try clear hb)))
  go_ret
  exact ⟨_, er_, onR x, bn HB⟩

/-! ### laws_loHas: function 18 -/
def laws_loHas.l0 : Nat → List (S35) → Int → Int → Int → Option (Bool)
 | 0, _, _, _, _ => none
 | k + 1, x0, x5, x526000, x526001 => if x5 < (x0.length : Int) then (if 0 ≤ x5 then (if (((rd_T35 x0 x5).f0) == x526000 && (((rd_T35 x0 x5).f1) == x526001)) = true then (some true) else (laws_loHas.l0 k x0 (wrap64 (x5 + 1)) x526000 x526001)) else (none)) else (some false)
def laws_loHas.f (k : Nat) (l0 : List (S35)) (a1_0 : Int) (a1_1 : Int) : Option (Bool) := laws_loHas.l0 k l0 0 a1_0 a1_1
theorem laws_loHas.mono_l : ∀ k, (∀ a b c d, LeO (laws_loHas.l0 k a b c d) (laws_loHas.l0 (k + 1) a b c d))
 | 0 => fun _ _ _ _ r h => by simp [laws_loHas.l0] at h
 | k + 1 => by
  have ih0 := laws_loHas.mono_l k
  ·intro a b c d; unfold laws_loHas.l0; exact mo_
theorem laws_loHas.mono : ∀ a b c k, LeO (laws_loHas.f k a b c) (laws_loHas.f (k + 1) a b c) := by
 intro a b c k; have ih0 := laws_loHas.mono_l k; unfold laws_loHas.f; exact mo_
set_option maxHeartbeats 8000000 in
set_option maxRecDepth 100000 in
theorem laws_loHas.calls (k : Nat) (q : Option Addr) (s : Nat) (l0 : List (S35)) (b : Int) (c : Int) (r : Bool) (w : World) (t : Kd.C k35 w q l0.length l0) (u : l0.length ≤ s) (h : laws_loHas.f k l0 b c = some r) :
  Calls Try.prog 18 #[.slice q l0.length s, .agg #[.int .i64 b, .int .i64 c]] w fun e w' => e = .returned (.bool r) ∧ Below w.heap.size w w' := by
 have K := Try.underlying35; have x := am t; have HC0 := am u; clear t u; have HB := am (Below.refl w.heap.size w)
 have H : (laws_loHas.l0 k l0 0 b c) = some r := h
 clear h; have H' := am H; clear H; go_enter Try.func18, Try.ntmps18
 go_wp2_with (first | ((with_reducible refine gate_dst (N := 3) rfl ?_); refine bx_ 3 #[.int .i64 b, .int .i64 c] 35 HB ?_; clear HB; intro o hg y hb g z HB; clear hb hg))
 repeat (go_quiet (first | ((with_reducible refine gate_dst (N := 3) rfl ?_); refine bx_ 3 #[.int .i64 b, .int .i64 c] 35 HB ?_; clear HB; intro o hg y hb g z HB; clear hb hg)); try go_wp2_with (first | ((with_reducible refine gate_dst (N := 3) rfl ?_); refine bx_ 3 #[.int .i64 b, .int .i64 c] 35 HB ?_; clear HB; intro o hg y hb g z HB; clear hb hg)))
 go_loopg [5] k (fun kq B w' => ∃ (a : Int), B = .int .i64 a ∧ Aside0 (laws_loHas.l0 kq l0 a b c = some r) ∧ Aside0 (kq ≤ k) ∧ Bk w' o (.cells #[.int .i64 b, .int .i64 c] 35 (0, 0)) ∧ Aside0 (Below w.heap.size w w'))
 case atStart => exact ⟨(0), rs_, H', ⟨Nat.le_refl _⟩, ⟨bkn g⟩, ⟨bn HB⟩⟩
 case round =>
  clear H'; obtain ⟨a, rfl, HA, A, g, HB⟩ := hrel; cases gk with
  | zero => exact absurd HA.out (by simp [laws_loHas.l0])
  | succ k1 =>
   have H := HA.out; clear HA; simp only [laws_loHas.l0] at H; by_cases l : a < (l0.length : Int)
   ·rw [if_pos l] at H; have D := decide_eq_true l; clear l; obtain ⟨L, H⟩ := id_ H; by_cases d : (((rd_T35 l0 a).f0) == b && (((rd_T35 l0 a).f1) == c)) = true
    ·rw [if_pos d] at H; have E : (((rd_T35 l0 a).f0) == b && (((rd_T35 l0 a).f1) == c)) = true := d; (try (have G : decide (((rd_T35 l0 a).f0) = b && (((rd_T35 l0 a).f1) == c)) = true := by simpa using d)); (try (have I : (((rd_T35 l0 a).f0) == b && (((rd_T35 l0 a).f1) == c)) = true := by simpa using d)); clear d; obtain rfl := Option.some.inj H; have i : 0 ≤ (a : Int) := oa; have j : a < (l0.length : Int) := oa; obtain ⟨J, p, m, n⟩ := at_T35 x.out a i j; cases p; replace m := hc_ HB m; replace n := hc_ HB n; obtain ⟨i, j⟩ := e2_ i j; have M := c2 g; go_wp2
     repeat (go_quiet (fail); try go_wp2)
     go_ret
     exact ⟨er_, bn HB⟩
    ·rw [if_neg d] at H; have E : (((rd_T35 l0 a).f0) == b && (((rd_T35 l0 a).f1) == c)) = false := by simpa using d
     (try (have G : decide (((rd_T35 l0 a).f0) = b && (((rd_T35 l0 a).f1) == c)) = false := by simpa using d)); (try (have I : (((rd_T35 l0 a).f0) == b && (((rd_T35 l0 a).f1) == c)) = false := by simpa using d)); (try (have O : ¬ (((rd_T35 l0 a).f0) = b && (((rd_T35 l0 a).f1) == c)) := by simpa using d)); clear d; have H' := am H; clear H; have i : 0 ≤ (a : Int) := oa; have j : a < (l0.length : Int) := oa; obtain ⟨J, p, m, n⟩ := at_T35 x.out a i j; cases p; replace m := hc_ HB m; replace n := hc_ HB n; obtain ⟨i, j⟩ := e2_ i j; have P := c2 g; go_wp2
     repeat (go_quiet (fail); try go_wp2)
     go_roundg k1
     case measure => have := A.out; omega
     case rel => exact ⟨(wrap64 (a + 1)), rs_, H', ⟨by have := A.out; omega⟩, ⟨bkn g⟩, ⟨bn HB⟩⟩
   ·rw [if_neg l] at H; have D := decide_eq_false l; clear l; obtain rfl := Option.some.inj H; go_wp2
    repeat (go_quiet (fail); try go_wp2)
    go_ret
    exact ⟨er_, bn HB⟩

end Go.Proofs.Ytiamiahkjdipkaa.F
