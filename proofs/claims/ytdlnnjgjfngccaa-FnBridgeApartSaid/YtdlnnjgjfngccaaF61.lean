-- By oprint.py.
import Derived.Test.YtdlnnjgjfngccaaF0
import Derived.Test.YtdlnnjgjfngccaaF14
import Derived.Test.YtdlnnjgjfngccaaF27
namespace Go.Proofs.Ytdlnnjgjfngccaa.F
open Go.RowKit Go.Proofs.YtdlnnjgjfngccaaW.PrintWords Go.Proofs.YtdlnnjgjfngccaaW.PrintLast Go.Proofs.YtdlnnjgjfngccaaW.PrintMore
attribute [local go_sem] max2_int min2_int max_two min_two max_three min_three max_four min_four
set_option linter.unusedVariables false
set_option linter.unusedSimpArgs false

/-! ### spec_WayParts: function 124 -/
mutual
def spec_WayParts.l0 : Nat → List Int → Int → Int → List (S73) → Option (List Int)
 | 0, _, _, _, _ => none
 | k + 1, x3, x4, x923000, x923001 => if x4 < x923000 then ((spec_WayReach.f k x923000 x923001 x4).bind fun t927 => (spec_WayParts.l1 k x3 x4 t927 0 x923000 x923001)) else (some x3)
def spec_WayParts.l1 : Nat → List Int → Int → List Bool → Int → Int → List (S73) → Option (List Int)
 | 0, _, _, _, _, _, _ => none
 | k + 1, x3, x4, x5, x6, x923000, x923001 => if 0 ≤ x6 then (if x6 < (x5.length : Int) then (if rdOf false x5 x6 = true then (if x3.length < 17592186044416 then (spec_WayParts.l0 k (x3 ++ [x6]) (wrap64 (x4 + 1)) x923000 x923001) else (none)) else (spec_WayParts.l1 k x3 x4 x5 (wrap64 (x6 + 1)) x923000 x923001)) else (none)) else (none)
end
def spec_WayParts.f (k : Nat) (a0_0 : Int) (l0_1 : List (S73)) : Option (List Int) := (some (([] : List Int) : List Int)).bind fun y923 => ((spec_NetOk.f k a0_0 l0_1).bind fun t926 => (if t926 = true then (spec_WayParts.l0 k y923 0 a0_0 l0_1) else (some y923)))
theorem spec_WayParts.mono_l : ∀ k, (∀ a b c d, LeO (spec_WayParts.l0 k a b c d) (spec_WayParts.l0 (k + 1) a b c d)) ∧ (∀ a b c d e f, LeO (spec_WayParts.l1 k a b c d e f) (spec_WayParts.l1 (k + 1) a b c d e f))
 | 0 => ⟨fun _ _ _ _ r h => by simp [spec_WayParts.l0] at h, fun _ _ _ _ _ _ r h => by simp [spec_WayParts.l1] at h⟩
 | k + 1 => by
  obtain ⟨ih0, ih1⟩ := spec_WayParts.mono_l k; refine ⟨?_, ?_⟩
  ·intro a b c d; unfold spec_WayParts.l0; have g := @spec_NetOk.mono; have i := @spec_WayReach.mono; exact mo_
  ·intro a b c d e f; unfold spec_WayParts.l1; have g := @spec_NetOk.mono; have i := @spec_WayReach.mono; exact mo_
theorem spec_WayParts.mono : ∀ a b k, LeO (spec_WayParts.f k a b) (spec_WayParts.f (k + 1) a b) := by
 intro a b k; obtain ⟨ih0, ih1⟩ := spec_WayParts.mono_l k; unfold spec_WayParts.f; have m0_ := @spec_NetOk.mono; have m1_ := @spec_WayReach.mono; exact mo_
set_option maxHeartbeats 8000000 in
set_option maxRecDepth 100000 in
theorem spec_WayParts.calls (k : Nat) (d : Int) (m : Option Addr) (n : Nat) (a : List (S73)) (r : List Int) (w : World) (Y : Kd.C k73 w m a.length a) (Z : a.length ≤ n) (h : spec_WayParts.f k d a = some r) :
  Calls Try.prog 124 #[.agg #[.int .i64 d, .slice m a.length n]] w fun e w' => ∃ aa : Value, e = .returned (aa) ∧ Kd.R (Kd.int .i64) 3 w' w.heap.size (fun _ => True) aa r ∧ Below w.heap.size w w' := by
 have hu34 := Try.underlying34; have J := am Y; have K := am Z; clear Y Z; have HB := am (Below.refl w.heap.size w)
 have H : ((some (([] : List Int) : List Int)).bind fun x => ((spec_NetOk.f k d a).bind fun z => (if z = true then (spec_WayParts.l0 k x 0 d a) else (some x)))) = some r := h
 clear h; obtain ⟨x, L⟩ : ∃ y_ : List Int, y_ = (([] : List Int)) := ⟨_, rfl⟩; replace H : ((spec_NetOk.f k d a).bind fun z => (if z = true then (spec_WayParts.l0 k x 0 d a) else (some x))) = some r := nh_ L H; have D := am L; clear L; replace H := bi_ H; obtain ⟨z, A2, H⟩ := H; (try dsimp only at H); by_cases y : z = true
 ·subst y; rw [if_pos rfl] at H; have H' := am H; clear H; go_enter Try.func124, Try.ntmps124
  go_wp2_with (first | ((with_reducible refine gate_dst (N := 1) rfl ?_); refine bx_ 1 #[.int .i64 d, .slice m a.length n] 34 HB ?_; clear HB; intro M hg w4 hb c GW922 HB; clear hb hg) | ((with_reducible refine gate_dst (N := 7) rfl ?_); refine Kd.R_lit (Kd.int .i64) _ 3 ?hg (N := 7) ?hd (xs := ([] : List Int)) (inner := []) (ok := fun _ => True) (okp := fun _ => True) ?hr ?hp (fun _ hk => hk) trivial (Below.refl _ _) (Nat.le_refl _) (by simp) ?_; (case hd => rfl); (case hg => rfl); (case hr => first | (go_simp; done) | (go_simp; rfl)); (case hp => exact (Reps.none _ _)); intro v924 w5 A hb O P; clear O P; (first | rw [← D.out] at A | (simp only [Int.reduceToNat] at A; rw [← D.out] at A)); have o := am (Kd.R_lower A (below_size (bn HB))); replace c := bb c hb; replace HB := bs HB hb; clear hb A; have hcz7 := c2 c) | ((with_reducible refine gate_callee (f := 66) rfl ?_); refine gl_ (some 9) Try.func66 #[.agg #[.int .i64 d, .slice m a.length n]] ?_; (with_reducible refine (spec_NetOk.calls k d _ _ a true _ ?z_1 ?z_2 A2.out).mono ?_); (case z_1 => exact cb J HB); (case z_2 => exact K.out); rintro e w8 ⟨rfl, hb⟩; refine ⟨_, rfl, ?_⟩; replace o := am (Kd.R_below (onR o) hb); replace c := bb c hb; replace HB := bs HB hb; (try clear hb); (try clear hi)))
  go_loopg [3, 4] k (fun kq v3 v4 w' => ∃ (j : List Int) (i : Int), v4 = .int .i64 i ∧ Aside0 (spec_WayParts.l0 kq j i d a = some r) ∧ Aside0 (kq ≤ k) ∧ Aside0 (Kd.R (Kd.int .i64) 3 w' w.heap.size (fun _ => True) v3 j) ∧ Bk w' M (.cells #[.int .i64 d, (.slice m a.length n)] 34 (0, 0)) ∧ Aside0 (Below w.heap.size w w'))
  case atStart => exact ⟨(x), (0), rs_, H', ⟨Nat.le_refl _⟩, ⟨onR o⟩, ⟨bkn c⟩, ⟨bn HB⟩⟩
  case round =>
   clear H'; (try clear c1); (try clear p2); (try clear y); (try clear c6); (try clear hcz7); obtain ⟨j, i, rfl, HA, E, l, c, HB⟩ := hrel; cases gk with
   | zero => exact absurd HA.out (by simp [spec_WayParts.l0])
   | succ k1 =>
    have H := HA.out; clear HA; simp only [spec_WayParts.l0] at H; by_cases p : i < d
    ·rw [if_pos p] at H; have c9b0 := decide_eq_true p; clear p; replace H := bi_ H; obtain ⟨q, A10, H⟩ := H; (try dsimp only at H); have H' := am H; clear H; have hcz11 := c2 c
     go_wp2_with (first | ((with_reducible refine gate_callee (f := 97) rfl ?_); refine gl_ (some 20) Try.func97 #[.agg #[.int .i64 d, .slice m a.length n], .int .i64 i] ?_; (with_reducible refine (spec_WayReach.calls k1 d _ _ a i q _ ?z_1 ?z_2 A10.out).mono ?_); (case z_1 => exact cb J HB); (case z_2 => exact K.out); rintro e w12 ⟨v928, rfl, ho0, hb⟩; refine ⟨_, rfl, ?_⟩; replace l := am (Kd.R_below (onR l) hb); have HO929 := am (Kd.R_lower ho0 (below_size (bn HB))); replace c := bb c hb; replace HB := bs HB hb; (try clear hb); (try clear ho0)))
     go_loopg [6] k1 (fun kq v6 w' => ∃ (g : Int), v6 = .int .i64 g ∧ Aside0 (spec_WayParts.l1 kq j i q g d a = some r) ∧ Aside0 (kq ≤ k1) ∧ Aside0 (Kd.R (Kd.int .i64) 3 w' w.heap.size (fun _ => True) u3 j) ∧ Aside0 (Kd.R Kd.bool 4 w' w.heap.size (fun _ => True) v928 q) ∧ Bk w' M (.cells #[.int .i64 d, (.slice m a.length n)] 34 (0, 0)) ∧ Aside0 (Below w.heap.size w w'))
     case atStart => exact ⟨(0), rs_, H', ⟨Nat.le_refl _⟩, ⟨onR l⟩, ⟨onR HO929⟩, ⟨bkn c⟩, ⟨bn HB⟩⟩
     case round =>
      clear H'; (try clear c1); (try clear p2); (try clear y); (try clear c6); (try clear p); (try clear c9b0); (try clear c12); (try clear hcz11); (try clear hcz7); (try clear p2); obtain ⟨g, rfl, HA, G, l, s, c, HB⟩ := hrel; cases gk with
      | zero => exact absurd HA.out (by simp [spec_WayParts.l1])
      | succ k2 =>
       have H := HA.out; clear HA; simp only [spec_WayParts.l1] at H; obtain ⟨c13b0, H⟩ := id_ H; obtain ⟨c14b0, H⟩ := id_ H; obtain ⟨bq15, T⟩ : ∃ b_ : Bool, b_ = (rdOf false q g) := ⟨_, rfl⟩; replace H : (if bq15 = true then (if j.length < 17592186044416 then (spec_WayParts.l0 k2 (j ++ [g]) (wrap64 (i + 1)) d a) else (none)) else (spec_WayParts.l1 k2 j i q (wrap64 (g + 1)) d a)) = some r := by rw [← T] at H; exact H
       have Nbq15 := am T; clear T; by_cases I : bq15 = true
       ·subst I; rw [if_pos rfl] at H; obtain ⟨c17, H⟩ := ig_ H; have LMc17 := am c17; clear c17; obtain ⟨y931, U⟩ : ∃ y_ : List Int, y_ = (j ++ [g]) := ⟨_, rfl⟩; replace H : (spec_WayParts.l0 k2 y931 (wrap64 (i + 1)) d a) = some r := nh_ U H; have Ny931 := am U; clear U; have H' := am H; clear H; obtain ⟨Ao18, co18, eo18⟩ := Kd.R_slice s.out; subst eo18; have t : 0 ≤ (g : Int) := oa; have u : g < (q.length : Int) := oa; obtain ⟨ad930, W, X⟩ := Kd.at_bool (Kd.R_reads' s.out).2.2 g t u; (try rw [← Nbq15.out] at X); cases W; replace t := eq_true t; replace u := eq_true u
        go_wp2_with (first | ((with_reducible refine gate_builtin (b := .append) (xs := #[.tmp 28, .tmp 30]) rfl ?_); at_builtin; refine Kd.R_append (Kd.int .i64) (w0 := w) w.heap.size rfl (.tmp 28) (.tmp 30) 40 3 (.int .i64 0) 8 rfl Try.underlying40 info3 rfl (by decide) (by omega) u3 j g [.int .i64 g] (fun _ => True) (fun _ => False) rfl rfl ?aP (fun _ hk => hk.elim) ?aF ?aO ?aB ?aS ?aL ?_; (case aP => exact rfl); (case aB => exact (bn HB)); (case aF => exact (fun _ _ => trivial)); (case aO => exact (onR l)); (case aS => exact (below_size (bn HB))); (case aL => have := LMc17.out; omega); intro v932 w19 ho hb hg hat; rw [← Ny931.out] at ho; replace s := am (Kd.R_over' (onR s) (Kd.R_typed (onR l)) (by decide) hg); replace c := bm (blk_grown (bkn c) hg (Kd.R_ne l.out c.out (by decide))); replace HB := am hb; have HO933 := am ho; clear l; clear ho hb hg hat))
        go_roundg k2
        case measure => have := E.out; have := G.out; omega
        case rel => exact ⟨(y931), (wrap64 (i + 1)), rs_, H', ⟨by have := E.out; have := G.out; omega⟩, ⟨onR HO933⟩, ⟨bkn c⟩, ⟨bn HB⟩⟩
       ·replace I := Bool.eq_false_iff.mpr I; subst I; rw [if_neg (show ¬ (false = true) by decide)] at H; have H' := am H; clear H; obtain ⟨Ao20, co20, eo20⟩ := Kd.R_slice s.out; subst eo20; have t : 0 ≤ (g : Int) := oa; have u : g < (q.length : Int) := oa; obtain ⟨ad930, W, X⟩ := Kd.at_bool (Kd.R_reads' s.out).2.2 g t u; (try rw [← Nbq15.out] at X); cases W; replace t := eq_true t; replace u := eq_true u; go_wp2
        go_roundg k2
        case measure => have := E.out; have := G.out; omega
        case rel => exact ⟨(wrap64 (g + 1)), rs_, H', ⟨by have := E.out; have := G.out; omega⟩, ⟨onR l⟩, ⟨onR s⟩, ⟨bkn c⟩, ⟨bn HB⟩⟩
    ·rw [if_neg p] at H; have c9b0 := decide_eq_false p; clear p; obtain rfl := Option.some.inj H; have hcz21 := c2 c; go_wp2
     go_ret
     exact ⟨_, er_, onR l, bn HB⟩
 ·replace y := Bool.eq_false_iff.mpr y; subst y; rw [if_neg (show ¬ (false = true) by decide)] at H; obtain rfl := Option.some.inj H; go_enter Try.func124, Try.ntmps124
  go_wp2_with (first | ((with_reducible refine gate_dst (N := 1) rfl ?_); refine bx_ 1 #[.int .i64 d, .slice m a.length n] 34 HB ?_; clear HB; intro M hg w22 hb c GW922 HB; clear hb hg) | ((with_reducible refine gate_dst (N := 7) rfl ?_); refine Kd.R_lit (Kd.int .i64) _ 3 ?hg (N := 7) ?hd (xs := ([] : List Int)) (inner := []) (ok := fun _ => True) (okp := fun _ => True) ?hr ?hp (fun _ hk => hk) trivial (Below.refl _ _) (Nat.le_refl _) (by simp) ?_; (case hd => rfl); (case hg => rfl); (case hr => first | (go_simp; done) | (go_simp; rfl)); (case hp => exact (Reps.none _ _)); intro v924 w23 B hb O P; clear O P; (first | rw [← D.out] at B | (simp only [Int.reduceToNat] at B; rw [← D.out] at B)); have o := am (Kd.R_lower B (below_size (bn HB))); replace c := bb c hb; replace HB := bs HB hb; clear hb B; have hcz25 := c2 c) | ((with_reducible refine gate_callee (f := 66) rfl ?_); refine gl_ (some 9) Try.func66 #[.agg #[.int .i64 d, .slice m a.length n]] ?_; (with_reducible refine (spec_NetOk.calls k d _ _ a false _ ?z_1 ?z_2 A2.out).mono ?_); (case z_1 => exact cb J HB); (case z_2 => exact K.out); rintro e w26 ⟨rfl, hb⟩; refine ⟨_, rfl, ?_⟩; replace o := am (Kd.R_below (onR o) hb); replace c := bb c hb; replace HB := bs HB hb; (try clear hb); (try clear hi)))
  go_ret
  exact ⟨_, er_, onR o, bn HB⟩

/-! ### spec_WayCount: function 115 -/
def spec_WayCount.l0 : Nat → List Int → Int → Int → Option (Int)
 | 0, _, _, _ => none
 | k + 1, x3, x4, x5 => if x5 < (x3.length : Int) then (if 0 ≤ x5 then (if (rd x3 x5) = x5 then (spec_WayCount.l0 k x3 (wrap64 (x4 + 1)) (wrap64 (x5 + 1))) else (spec_WayCount.l0 k x3 x4 (wrap64 (x5 + 1)))) else (none)) else (some x4)
def spec_WayCount.f (k : Nat) (a0_0 : Int) (l0_1 : List (S73)) : Option (Int) := (spec_NetOk.f k a0_0 l0_1).bind fun t935 => (if t935 = true then ((spec_WayParts.f k a0_0 l0_1).bind fun t936 => (spec_WayCount.l0 k t936 0 0)) else (some (-1)))
theorem spec_WayCount.mono_l : ∀ k, (∀ a b c, LeO (spec_WayCount.l0 k a b c) (spec_WayCount.l0 (k + 1) a b c))
 | 0 => fun _ _ _ r h => by simp [spec_WayCount.l0] at h
 | k + 1 => by
  have ih0 := spec_WayCount.mono_l k
  ·intro a b c; unfold spec_WayCount.l0; have m0_ := @spec_NetOk.mono; have m1_ := @spec_WayParts.mono; exact mo_
theorem spec_WayCount.mono : ∀ a b k, LeO (spec_WayCount.f k a b) (spec_WayCount.f (k + 1) a b) := by
 intro a b k; have ih0 := spec_WayCount.mono_l k; unfold spec_WayCount.f; have m0_ := @spec_NetOk.mono; have m1_ := @spec_WayParts.mono; exact mo_
set_option maxHeartbeats 8000000 in
set_option maxRecDepth 100000 in
theorem spec_WayCount.calls (k : Nat) (d : Int) (i : Option Addr) (j : Nat) (b : List (S73)) (r : Int) (w : World) (A : Kd.C k73 w i b.length b) (B : b.length ≤ j) (h : spec_WayCount.f k d b = some r) :
  Calls Try.prog 115 #[.agg #[.int .i64 d, .slice i b.length j]] w fun e w' => e = .returned (.int .i64 r) ∧ Below w.heap.size w w' := by
 have ae := Try.underlying34; have u := am A; have x := am B; clear A B; have HB := am (Below.refl w.heap.size w)
 have H : ((spec_NetOk.f k d b).bind fun y => (if y = true then ((spec_WayParts.f k d b).bind fun g => (spec_WayCount.l0 k g 0 0)) else (some (-1)))) = some r := h
 clear h; replace H := bi_ H; obtain ⟨y, D, H⟩ := H; (try dsimp only at H); by_cases q : y = true
 ·subst q; rw [if_pos rfl] at H; replace H := bi_ H; obtain ⟨g, I, H⟩ := H; (try dsimp only at H); have H' := am H; clear H; go_enter Try.func115, Try.ntmps115
  go_wp2_with (first | ((with_reducible refine gate_dst (N := 1) rfl ?_); refine bx_ 1 #[.int .i64 d, .slice i b.length j] 34 HB ?_; clear HB; intro E hg w5 hb c J HB; clear hb hg; have K := c2 c) | ((with_reducible refine gate_callee (f := 66) rfl ?_); refine gl_ (some 7) Try.func66 #[.agg #[.int .i64 d, .slice i b.length j]] ?_; (with_reducible refine (spec_NetOk.calls k d _ _ b true _ ?z_1 ?z_2 D.out).mono ?_); (case z_1 => exact cb u HB); (case z_2 => exact x.out); rintro e w7 ⟨rfl, hb⟩; refine ⟨_, rfl, ?_⟩; replace c := bb c hb; replace HB := bs HB hb; (try clear hb); have L := c2 c) | ((with_reducible refine gate_callee (f := 124) rfl ?_); refine gl_ (some 10) Try.func124 #[.agg #[.int .i64 d, .slice i b.length j]] ?_; (with_reducible refine (spec_WayParts.calls k d _ _ b g _ ?z_1 ?z_2 I.out).mono ?_); (case z_1 => exact cb u HB); (case z_2 => exact x.out); rintro e w9 ⟨M, rfl, G, hb⟩; refine ⟨_, rfl, ?_⟩; have O := am (Kd.R_lower G (below_size (bn HB))); replace c := bb c hb; replace HB := bs HB hb; (try clear hb); (try clear G)))
  go_loopg [4, 5] k (fun kq P T w' => ∃ (s : Int) (a : Int), P = .int .i64 s ∧ T = .int .i64 a ∧ Aside0 (spec_WayCount.l0 kq g s a = some r) ∧ Aside0 (kq ≤ k) ∧ Aside0 (Kd.R (Kd.int .i64) 3 w' w.heap.size (fun _ => True) M g) ∧ Bk w' E (.cells #[.int .i64 d, (.slice i b.length j)] 34 (0, 0)) ∧ Aside0 (Below w.heap.size w w'))
  case atStart => exact ⟨(0), (0), rs_, rs_, H', ⟨Nat.le_refl _⟩, ⟨onR O⟩, ⟨bkn c⟩, ⟨bn HB⟩⟩
  case round =>
   clear H'; (try clear c1); (try clear p2); (try clear q); (try clear c6); (try clear K); (try clear L); obtain ⟨s, a, rfl, rfl, HA, t, l, c, HB⟩ := hrel; cases gk with
   | zero => exact absurd HA.out (by simp [spec_WayCount.l0])
   | succ k1 =>
    have H := HA.out; clear HA; simp only [spec_WayCount.l0] at H; by_cases p : a < (g.length : Int)
    ·rw [if_pos p] at H; have U := decide_eq_true p; clear p; obtain ⟨af, H⟩ := id_ H; by_cases m : (rd g a) = a
     ·rw [if_pos m] at H; have W : ((rd g a) == a) = true := beq_iff_eq.mpr m; have X : ((rd g a) != a) = false := bne_eq_false_iff_eq.mpr m; clear m; have H' := am H; clear H; obtain ⟨ag, ah, Y⟩ := Kd.R_slice l.out; subst Y; have n : 0 ≤ (a : Int) := oa; have o : a < (g.length : Int) := oa; obtain ⟨Z, z, aa⟩ := Kd.at_int (Kd.R_reads' l.out).2.2 a n o; cases z; replace n := eq_true n; replace o := eq_true o; go_wp2
      go_roundg k1
      case measure => have := t.out; omega
      case rel => exact ⟨(wrap64 (s + 1)), (wrap64 (a + 1)), rs_, rs_, H', ⟨by have := t.out; omega⟩, ⟨onR l⟩, ⟨bkn c⟩, ⟨bn HB⟩⟩
     ·rw [if_neg m] at H; have W : ((rd g a) == a) = false := beq_eq_false_iff_ne.mpr m; have X : ((rd g a) != a) = true := bne_iff_ne.mpr m; have H' := am H; clear H; obtain ⟨ai, aj, ab⟩ := Kd.R_slice l.out; subst ab; have n : 0 ≤ (a : Int) := oa; have o : a < (g.length : Int) := oa; obtain ⟨Z, z, aa⟩ := Kd.at_int (Kd.R_reads' l.out).2.2 a n o; cases z; replace n := eq_true n; replace o := eq_true o; go_wp2
      go_roundg k1
      case measure => have := t.out; omega
      case rel => exact ⟨(s), (wrap64 (a + 1)), rs_, rs_, H', ⟨by have := t.out; omega⟩, ⟨onR l⟩, ⟨bkn c⟩, ⟨bn HB⟩⟩
    ·rw [if_neg p] at H; have U := decide_eq_false p; clear p; obtain rfl := Option.some.inj H; obtain ⟨ak, al, ad⟩ := Kd.R_slice l.out; subst ad; go_wp2
     go_ret
     exact ⟨er_, bn HB⟩
 ·replace q := Bool.eq_false_iff.mpr q; subst q; rw [if_neg (show ¬ (false = true) by decide)] at H; obtain rfl := Option.some.inj H; go_enter Try.func115, Try.ntmps115
  go_wp2_with (first | ((with_reducible refine gate_dst (N := 1) rfl ?_); refine bx_ 1 #[.int .i64 d, .slice i b.length j] 34 HB ?_; clear HB; intro E hg w16 hb c J HB; clear hb hg; have an := c2 c) | ((with_reducible refine gate_callee (f := 66) rfl ?_); refine gl_ (some 7) Try.func66 #[.agg #[.int .i64 d, .slice i b.length j]] ?_; (with_reducible refine (spec_NetOk.calls k d _ _ b false _ ?z_1 ?z_2 D.out).mono ?_); (case z_1 => exact cb u HB); (case z_2 => exact x.out); rintro e w18 ⟨rfl, hb⟩; refine ⟨_, rfl, ?_⟩; replace c := bb c hb; replace HB := bs HB hb; (try clear hb); (try clear hi)))
  go_ret
  exact ⟨er_, bn HB⟩

end Go.Proofs.Ytdlnnjgjfngccaa.F
