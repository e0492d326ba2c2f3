-- By oprint.py.
import Derived.Test.YthmddmobfkfgeaaF0
import Derived.Test.YthmddmobfkfgeaaF4
import Derived.Test.YthmddmobfkfgeaaF5
import Derived.Test.YthmddmobfkfgeaaF6
namespace Go.Proofs.Ythmddmobfkfgeaa.F
open Go.RowKit Go.Proofs.YthmddmobfkfgeaaW.PrintWords Go.Proofs.YthmddmobfkfgeaaW.PrintLast Go.Proofs.YthmddmobfkfgeaaW.PrintMore
attribute [local go_sem] max2_int min2_int max_two min_two max_three min_three max_four min_four
set_option linter.unusedVariables false
set_option linter.unusedSimpArgs false

/-! ### spec_l12Alone: function 103 -/
def spec_l12Alone.f (k : Nat) (a0_0 : Int) (l0_1 : List (S33)) (a1 : Int) : Option (Bool) := (spec_l2Next.f k a0_0 l0_1 a1).bind fun t880 => (some ((t880.length : Int) == 0))
theorem spec_l12Alone.mono : ∀ a b c k, LeO (spec_l12Alone.f k a b c) (spec_l12Alone.f (k + 1) a b c) := by
 intro a b c k; unfold spec_l12Alone.f; have m0_ := @spec_l2Next.mono; exact mo_
set_option maxHeartbeats 8000000 in
set_option maxRecDepth 100000 in
theorem spec_l12Alone.calls (k : Nat) (b : Int) (d : Option Addr) (g : Nat) (a : List (S33)) (c : Int) (r : Bool) (w : World) (l : Kd.C k33 w d a.length a) (m : a.length ≤ g) (h : spec_l12Alone.f k b a c = some r) :
  Calls Try.prog 103 #[.agg #[.int .i64 b, .slice d a.length g], .int .i64 c] w fun e w' => e = .returned (.bool r) ∧ Below w.heap.size w w' := by
 have u := Try.underlying31; have o := am l; have p := am m; clear l m; have HB := am (Below.refl w.heap.size w)
 have H : ((spec_l2Next.f k b a c).bind fun i => (some ((i.length : Int) == 0))) = some r := h
 clear h; obtain ⟨i, q, H⟩ := bi_ H; obtain rfl := Option.some.inj H; go_enter Try.func103, Try.ntmps103
 go_wp2_with (first | ((with_reducible refine gate_dst (N := 2) rfl ?_); refine bx_ 2 #[.int .i64 b, .slice d a.length g] 31 HB ?_; clear HB; intro x hg w4 hb j y HB; clear hb hg; have z := c2 j) | ((with_reducible refine gate_callee (f := 123) rfl ?_); refine gl_ (some 7) Try.func123 #[.agg #[.int .i64 b, .slice d a.length g], .int .i64 c] ?_; (with_reducible refine (spec_l2Next.calls k b _ _ a c i _ ?z_1 ?z_2 q.out).mono ?_); (case z_1 => exact cb o HB); (case z_2 => exact p.out); rintro e w6 ⟨A, rfl, n, hb⟩; refine ⟨_, rfl, ?_⟩; have s := am (Kd.R_lower n (below_size (bn HB))); replace j := bb j hb; replace HB := bs HB hb; (try clear hb n); obtain ⟨Ao7, co7, t⟩ := Kd.R_slice s.out; subst t))
 go_ret
 exact ⟨er_, bn HB⟩

/-! ### spec_WayParts: function 140 -/
mutual
def spec_WayParts.l0 : Nat → List Int → Int → Int → List (S33) → Option (List Int)
 | 0, _, _, _, _ => none
 | k + 1, x3, x4, x884000, x884001 => if x4 < x884000 then ((spec_WayReach.f k x884000 x884001 x4).bind fun t888 => (spec_WayParts.l1 k x3 x4 t888 0 x884000 x884001)) else (some x3)
def spec_WayParts.l1 : Nat → List Int → Int → List Bool → Int → Int → List (S33) → Option (List Int)
 | 0, _, _, _, _, _, _ => none
 | k + 1, x3, x4, x5, x6, x884000, x884001 => if 0 ≤ x6 then (if x6 < (x5.length : Int) then (if rdOf false x5 x6 = true then (if x3.length < 17592186044416 then (spec_WayParts.l0 k (x3 ++ [x6]) (wrap64 (x4 + 1)) x884000 x884001) else (none)) else (spec_WayParts.l1 k x3 x4 x5 (wrap64 (x6 + 1)) x884000 x884001)) else (none)) else (none)
end
def spec_WayParts.f (k : Nat) (a0_0 : Int) (l0_1 : List (S33)) : Option (List Int) := (some (([] : List Int) : List Int)).bind fun y884 => ((spec_NetOk.f k a0_0 l0_1).bind fun t887 => (if t887 = true then (spec_WayParts.l0 k y884 0 a0_0 l0_1) else (some y884)))
theorem spec_WayParts.mono_l : ∀ k, (∀ a b c d, LeO (spec_WayParts.l0 k a b c d) (spec_WayParts.l0 (k + 1) a b c d)) ∧ (∀ a b c d e f, LeO (spec_WayParts.l1 k a b c d e f) (spec_WayParts.l1 (k + 1) a b c d e f))
 | 0 => ⟨fun _ _ _ _ r h => by simp [spec_WayParts.l0] at h, fun _ _ _ _ _ _ r h => by simp [spec_WayParts.l1] at h⟩
 | k + 1 => by
  obtain ⟨ih0, ih1⟩ := spec_WayParts.mono_l k; refine ⟨?_, ?_⟩
  ·intro a b c d; unfold spec_WayParts.l0; have g := @spec_NetOk.mono; have i := @spec_WayReach.mono; exact mo_
  ·intro a b c d e f; unfold spec_WayParts.l1; have g := @spec_NetOk.mono; have i := @spec_WayReach.mono; exact mo_
theorem spec_WayParts.mono : ∀ a b k, LeO (spec_WayParts.f k a b) (spec_WayParts.f (k + 1) a b) := by
 intro a b k; obtain ⟨ih0, ih1⟩ := spec_WayParts.mono_l k; unfold spec_WayParts.f; have m0_ := @spec_NetOk.mono; have m1_ := @spec_WayReach.mono; exact mo_
set_option maxHeartbeats 8000000 in
set_option maxRecDepth 100000 in
theorem spec_WayParts.calls (k : Nat) (d : Int) (m : Option Addr) (n : Nat) (a : List (S33)) (r : List Int) (w : World) (X : Kd.C k33 w m a.length a) (Y : a.length ≤ n) (h : spec_WayParts.f k d a = some r) :
  Calls Try.prog 140 #[.agg #[.int .i64 d, .slice m a.length n]] w fun e w' => ∃ Z : Value, e = .returned (Z) ∧ Kd.R (Kd.int .i64) 3 w' w.heap.size (fun _ => True) Z r ∧ Below w.heap.size w w' := by
 have aA := Try.underlying31; have I := am X; have J := am Y; clear X Y; have HB := am (Below.refl w.heap.size w)
 have H : ((some (([] : List Int) : List Int)).bind fun x => ((spec_NetOk.f k d a).bind fun y => (if y = true then (spec_WayParts.l0 k x 0 d a) else (some x)))) = some r := h
 clear h; obtain ⟨x, K⟩ : ∃ y_ : List Int, y_ = (([] : List Int)) := ⟨_, rfl⟩; replace H : ((spec_NetOk.f k d a).bind fun y => (if y = true then (spec_WayParts.l0 k x 0 d a) else (some x))) = some r := nh_ K H; have B := am K; clear K; obtain ⟨y, A2, H⟩ := bi_ H; by_cases D : y = true
 ·subst D; rw [if_pos rfl] at H; have H' := am H; clear H; go_enter Try.func140, Try.ntmps140
  go_wp2_with (first | ((with_reducible refine gate_dst (N := 1) rfl ?_); refine bx_ 1 #[.int .i64 d, .slice m a.length n] 31 HB ?_; clear HB; intro L hg w4 hb c aj HB; clear hb hg) | ((with_reducible refine gate_dst (N := 7) rfl ?_); refine Kd.R_lit (Kd.int .i64) _ 3 ?hg (N := 7) ?hd (xs := ([] : List Int)) (inner := []) (ok := fun _ => True) (okp := fun _ => True) ?hr ?hp (fun _ hk => hk) trivial (Below.refl _ _) (Nat.le_refl _) (by simp) ?_; (case hd => rfl); (case hg => rfl); (case hr => first | (go_simp; done) | (go_simp; rfl)); (case hp => exact (Reps.none _ _)); intro ak w5 z hb M O; clear M O; (first | rw [← B.out] at z | (simp only [Int.reduceToNat] at z; rw [← B.out] at z)); have o := am (Kd.R_lower z (below_size (bn HB))); replace c := bb c hb; replace HB := bs HB hb; clear hb z; have aa := c2 c) | ((with_reducible refine gate_callee (f := 41) rfl ?_); refine gl_ (some 9) Try.func41 #[.agg #[.int .i64 d, .slice m a.length n]] ?_; (with_reducible refine (spec_NetOk.calls k d _ _ a true _ ?z_1 ?z_2 A2.out).mono ?_); (case z_1 => exact cb I HB); (case z_2 => exact J.out); rintro e w8 ⟨rfl, hb⟩; refine ⟨_, rfl, ?_⟩; replace o := am (Kd.R_below (onR o) hb); replace c := bb c hb; replace HB := bs HB hb; (try clear hb)))
  go_loopg [3, 4] k (fun kq v3 v4 w' => ∃ (j : List Int) (i : Int), v4 = .int .i64 i ∧ Aside0 (spec_WayParts.l0 kq j i d a = some r) ∧ Aside0 (kq ≤ k) ∧ Aside0 (Kd.R (Kd.int .i64) 3 w' w.heap.size (fun _ => True) v3 j) ∧ Bk w' L (.cells #[.int .i64 d, (.slice m a.length n)] 31 (0, 0)) ∧ Aside0 (Below w.heap.size w w'))
  case atStart => exact ⟨(x), (0), rs_, H', ⟨Nat.le_refl _⟩, ⟨onR o⟩, ⟨bkn c⟩, ⟨bn HB⟩⟩
  case round =>
   clear H'; (try clear D aa); obtain ⟨j, i, rfl, HA, E, l, c, HB⟩ := hrel; cases gk with
   | zero => exact absurd HA.out (by simp [spec_WayParts.l0])
   | succ k1 =>
    have H := HA.out; clear HA; simp only [spec_WayParts.l0] at H; by_cases p : i < d
    ·rw [if_pos p] at H; have ab := decide_eq_true p; clear p; obtain ⟨q, al, H⟩ := bi_ H; have H' := am H; clear H; have an := c2 c
     go_wp2_with (first | ((with_reducible refine gate_callee (f := 77) rfl ?_); refine gl_ (some 20) Try.func77 #[.agg #[.int .i64 d, .slice m a.length n], .int .i64 i] ?_; (with_reducible refine (spec_WayReach.calls k1 d _ _ a i q _ ?z_1 ?z_2 al.out).mono ?_); (case z_1 => exact cb I HB); (case z_2 => exact J.out); rintro e w12 ⟨ap, rfl, ad, hb⟩; refine ⟨_, rfl, ?_⟩; replace l := am (Kd.R_below (onR l) hb); have aq := am (Kd.R_lower ad (below_size (bn HB))); replace c := bb c hb; replace HB := bs HB hb; (try clear hb ad)))
     go_loopg [6] k1 (fun kq v6 w' => ∃ (g : Int), v6 = .int .i64 g ∧ Aside0 (spec_WayParts.l1 kq j i q g d a = some r) ∧ Aside0 (kq ≤ k1) ∧ Aside0 (Kd.R (Kd.int .i64) 3 w' w.heap.size (fun _ => True) u3 j) ∧ Aside0 (Kd.R Kd.bool 4 w' w.heap.size (fun _ => True) ap q) ∧ Bk w' L (.cells #[.int .i64 d, (.slice m a.length n)] 31 (0, 0)) ∧ Aside0 (Below w.heap.size w w'))
     case atStart => exact ⟨(0), rs_, H', ⟨Nat.le_refl _⟩, ⟨onR l⟩, ⟨onR aq⟩, ⟨bkn c⟩, ⟨bn HB⟩⟩
     case round =>
      clear H'; (try clear D p ab an aa); obtain ⟨g, rfl, HA, G, l, s, c, HB⟩ := hrel; cases gk with
      | zero => exact absurd HA.out (by simp [spec_WayParts.l1])
      | succ k2 =>
       have H := HA.out; clear HA; simp only [spec_WayParts.l1] at H; obtain ⟨aC, H⟩ := id_ H; obtain ⟨aD, H⟩ := id_ H; obtain ⟨ae, P⟩ : ∃ b_ : Bool, b_ = (rdOf false q g) := ⟨_, rfl⟩; replace H : (if ae = true then (if j.length < 17592186044416 then (spec_WayParts.l0 k2 (j ++ [g]) (wrap64 (i + 1)) d a) else (none)) else (spec_WayParts.l1 k2 j i q (wrap64 (g + 1)) d a)) = some r := by rw [← P] at H; exact H
       have af := am P; clear P; by_cases ag : ae = true
       ·subst ag; rw [if_pos rfl] at H; obtain ⟨ah, H⟩ := ig_ H; have ar := am ah; clear ah; obtain ⟨ai, T⟩ : ∃ y_ : List Int, y_ = (j ++ [g]) := ⟨_, rfl⟩; replace H : (spec_WayParts.l0 k2 ai (wrap64 (i + 1)) d a) = some r := nh_ T H; have au := am T; clear T; have H' := am H; clear H; obtain ⟨aE, aG, av⟩ := Kd.R_slice s.out; subst av; have t : 0 ≤ (g : Int) := oa; have u : g < (q.length : Int) := oa; obtain ⟨aw, U, W⟩ := Kd.at_bool (Kd.R_reads' s.out).2.2 g t u; (try rw [← af.out] at W); cases U; obtain ⟨t, u⟩ := e2_ t u
        go_wp2_with (first | ((with_reducible refine gate_builtin (b := .append) (xs := #[.tmp 28, .tmp 30]) rfl ?_); at_builtin; refine Kd.R_append (Kd.int .i64) (w0 := w) w.heap.size rfl (.tmp 28) (.tmp 30) 57 3 (.int .i64 0) 8 rfl Try.underlying57 info3 rfl (by decide) (by omega) u3 j g [.int .i64 g] (fun _ => True) (fun _ => False) rfl rfl ?aP (fun _ hk => hk.elim) ?aF ?aO ?aB ?aS ?aL ?_; (case aP => exact rfl); (case aB => exact (bn HB)); (case aF => exact (fun _ _ => trivial)); (case aO => exact (onR l)); (case aS => exact (below_size (bn HB))); (case aL => have := ar.out; omega); intro aH w19 ho hb hg ax; rw [← au.out] at ho; replace s := am (Kd.R_over' (onR s) (Kd.R_typed (onR l)) (by decide) hg); replace c := bm (blk_grown (bkn c) hg (Kd.R_ne l.out c.out (by decide))); replace HB := am hb; have ay := am ho; clear l; clear ho hb hg ax))
        go_roundg k2
        case measure => have := E.out; have := G.out; omega
        case rel => exact ⟨(ai), (wrap64 (i + 1)), rs_, H', ⟨by have := E.out; have := G.out; omega⟩, ⟨onR ay⟩, ⟨bkn c⟩, ⟨bn HB⟩⟩
       ·obtain rfl := nt_ ag; rw [if_neg nf_] at H; have H' := am H; clear H; obtain ⟨aI, aJ, az⟩ := Kd.R_slice s.out; subst az; have t : 0 ≤ (g : Int) := oa; have u : g < (q.length : Int) := oa; obtain ⟨aw, U, W⟩ := Kd.at_bool (Kd.R_reads' s.out).2.2 g t u; (try rw [← af.out] at W); cases U; obtain ⟨t, u⟩ := e2_ t u; go_wp2
        go_roundg k2
        case measure => have := E.out; have := G.out; omega
        case rel => exact ⟨(wrap64 (g + 1)), rs_, H', ⟨by have := E.out; have := G.out; omega⟩, ⟨onR l⟩, ⟨onR s⟩, ⟨bkn c⟩, ⟨bn HB⟩⟩
    ·rw [if_neg p] at H; have ab := decide_eq_false p; clear p; obtain rfl := Option.some.inj H; have aK := c2 c; go_wp2
     go_ret
     exact ⟨_, er_, onR l, bn HB⟩
 ·obtain rfl := nt_ D; rw [if_neg nf_] at H; obtain rfl := Option.some.inj H; go_enter Try.func140, Try.ntmps140
  go_wp2_with (first | ((with_reducible refine gate_dst (N := 1) rfl ?_); refine bx_ 1 #[.int .i64 d, .slice m a.length n] 31 HB ?_; clear HB; intro L hg w22 hb c aj HB; clear hb hg) | ((with_reducible refine gate_dst (N := 7) rfl ?_); refine Kd.R_lit (Kd.int .i64) _ 3 ?hg (N := 7) ?hd (xs := ([] : List Int)) (inner := []) (ok := fun _ => True) (okp := fun _ => True) ?hr ?hp (fun _ hk => hk) trivial (Below.refl _ _) (Nat.le_refl _) (by simp) ?_; (case hd => rfl); (case hg => rfl); (case hr => first | (go_simp; done) | (go_simp; rfl)); (case hp => exact (Reps.none _ _)); intro ak w23 A hb M O; clear M O; (first | rw [← B.out] at A | (simp only [Int.reduceToNat] at A; rw [← B.out] at A)); have o := am (Kd.R_lower A (below_size (bn HB))); replace c := bb c hb; replace HB := bs HB hb; clear hb A; have aM := c2 c) | ((with_reducible refine gate_callee (f := 41) rfl ?_); refine gl_ (some 9) Try.func41 #[.agg #[.int .i64 d, .slice m a.length n]] ?_; (with_reducible refine (spec_NetOk.calls k d _ _ a false _ ?z_1 ?z_2 A2.out).mono ?_); (case z_1 => exact cb I HB); (case z_2 => exact J.out); rintro e w26 ⟨rfl, hb⟩; refine ⟨_, rfl, ?_⟩; replace o := am (Kd.R_below (onR o) hb); replace c := bb c hb; replace HB := bs HB hb; (try clear hb)))
  go_ret
  exact ⟨_, er_, onR o, bn HB⟩

/-! ### spec_WayCount: function 105 -/
def spec_WayCount.l0 : Nat → List Int → Int → Int → Option (Int)
 | 0, _, _, _ => none
 | k + 1, x3, x4, x5 => if x5 < (x3.length : Int) then (if 0 ≤ x5 then (if (rd x3 x5) = x5 then (spec_WayCount.l0 k x3 (wrap64 (x4 + 1)) (wrap64 (x5 + 1))) else (spec_WayCount.l0 k x3 x4 (wrap64 (x5 + 1)))) else (none)) else (some x4)
def spec_WayCount.f (k : Nat) (a0_0 : Int) (l0_1 : List (S33)) : Option (Int) := (spec_NetOk.f k a0_0 l0_1).bind fun t896 => (if t896 = true then ((spec_WayParts.f k a0_0 l0_1).bind fun t897 => (spec_WayCount.l0 k t897 0 0)) else (some (-1)))
theorem spec_WayCount.mono_l : ∀ k, (∀ a b c, LeO (spec_WayCount.l0 k a b c) (spec_WayCount.l0 (k + 1) a b c))
 | 0 => fun _ _ _ r h => by simp [spec_WayCount.l0] at h
 | k + 1 => by
  have ih0 := spec_WayCount.mono_l k
  ·intro a b c; unfold spec_WayCount.l0; have m0_ := @spec_NetOk.mono; have m1_ := @spec_WayParts.mono; exact mo_
theorem spec_WayCount.mono : ∀ a b k, LeO (spec_WayCount.f k a b) (spec_WayCount.f (k + 1) a b) := by
 intro a b k; have ih0 := spec_WayCount.mono_l k; unfold spec_WayCount.f; have m0_ := @spec_NetOk.mono; have m1_ := @spec_WayParts.mono; exact mo_
set_option maxHeartbeats 8000000 in
set_option maxRecDepth 100000 in
theorem spec_WayCount.calls (k : Nat) (d : Int) (i : Option Addr) (j : Nat) (b : List (S33)) (r : Int) (w : World) (A : Kd.C k33 w i b.length b) (B : b.length ≤ j) (h : spec_WayCount.f k d b = some r) :
  Calls Try.prog 105 #[.agg #[.int .i64 d, .slice i b.length j]] w fun e w' => e = .returned (.int .i64 r) ∧ Below w.heap.size w w' := by
 have ae := Try.underlying31; have t := am A; have u := am B; clear A B; have HB := am (Below.refl w.heap.size w)
 have H : ((spec_NetOk.f k d b).bind fun x => (if x = true then ((spec_WayParts.f k d b).bind fun g => (spec_WayCount.l0 k g 0 0)) else (some (-1)))) = some r := h
 clear h; obtain ⟨x, D, H⟩ := bi_ H; by_cases y : x = true
 ·subst y; rw [if_pos rfl] at H; obtain ⟨g, I, H⟩ := bi_ H; have H' := am H; clear H; go_enter Try.func105, Try.ntmps105
  go_wp2_with (first | ((with_reducible refine gate_dst (N := 1) rfl ?_); refine bx_ 1 #[.int .i64 d, .slice i b.length j] 31 HB ?_; clear HB; intro E hg w5 hb c J HB; clear hb hg; have K := c2 c) | ((with_reducible refine gate_callee (f := 41) rfl ?_); refine gl_ (some 7) Try.func41 #[.agg #[.int .i64 d, .slice i b.length j]] ?_; (with_reducible refine (spec_NetOk.calls k d _ _ b true _ ?z_1 ?z_2 D.out).mono ?_); (case z_1 => exact cb t HB); (case z_2 => exact u.out); rintro e w7 ⟨rfl, hb⟩; refine ⟨_, rfl, ?_⟩; replace c := bb c hb; replace HB := bs HB hb; (try clear hb); have L := c2 c) | ((with_reducible refine gate_callee (f := 140) rfl ?_); refine gl_ (some 10) Try.func140 #[.agg #[.int .i64 d, .slice i b.length j]] ?_; (with_reducible refine (spec_WayParts.calls k d _ _ b g _ ?z_1 ?z_2 I.out).mono ?_); (case z_1 => exact cb t HB); (case z_2 => exact u.out); rintro e w9 ⟨M, rfl, G, hb⟩; refine ⟨_, rfl, ?_⟩; have O := am (Kd.R_lower G (below_size (bn HB))); replace c := bb c hb; replace HB := bs HB hb; (try clear hb G)))
  go_loopg [4, 5] k (fun kq P T w' => ∃ (q : Int) (a : Int), P = .int .i64 q ∧ T = .int .i64 a ∧ Aside0 (spec_WayCount.l0 kq g q a = some r) ∧ Aside0 (kq ≤ k) ∧ Aside0 (Kd.R (Kd.int .i64) 3 w' w.heap.size (fun _ => True) M g) ∧ Bk w' E (.cells #[.int .i64 d, (.slice i b.length j)] 31 (0, 0)) ∧ Aside0 (Below w.heap.size w w'))
  case atStart => exact ⟨(0), (0), rs_, rs_, H', ⟨Nat.le_refl _⟩, ⟨onR O⟩, ⟨bkn c⟩, ⟨bn HB⟩⟩
  case round =>
   clear H'; (try clear y K L); obtain ⟨q, a, rfl, rfl, HA, s, l, c, HB⟩ := hrel; cases gk with
   | zero => exact absurd HA.out (by simp [spec_WayCount.l0])
   | succ k1 =>
    have H := HA.out; clear HA; simp only [spec_WayCount.l0] at H; by_cases p : a < (g.length : Int)
    ·rw [if_pos p] at H; have U := decide_eq_true p; clear p; obtain ⟨af, H⟩ := id_ H; by_cases m : (rd g a) = a
     ·rw [if_pos m] at H; have W : ((rd g a) == a) = true := beq_iff_eq.mpr m; have X : ((rd g a) != a) = false := bne_eq_false_iff_eq.mpr m; clear m; have H' := am H; clear H; obtain ⟨ag, ah, Y⟩ := Kd.R_slice l.out; subst Y; have n : 0 ≤ (a : Int) := oa; have o : a < (g.length : Int) := oa; obtain ⟨Z, z, aa⟩ := Kd.at_int (Kd.R_reads' l.out).2.2 a n o; cases z; obtain ⟨n, o⟩ := e2_ n o; go_wp2
      go_roundg k1
      case measure => have := s.out; omega
      case rel => exact ⟨(wrap64 (q + 1)), (wrap64 (a + 1)), rs_, rs_, H', ⟨by have := s.out; omega⟩, ⟨onR l⟩, ⟨bkn c⟩, ⟨bn HB⟩⟩
     ·rw [if_neg m] at H; have W : ((rd g a) == a) = false := beq_eq_false_iff_ne.mpr m; have X : ((rd g a) != a) = true := bne_iff_ne.mpr m; have H' := am H; clear H; obtain ⟨ai, aj, ab⟩ := Kd.R_slice l.out; subst ab; have n : 0 ≤ (a : Int) := oa; have o : a < (g.length : Int) := oa; obtain ⟨Z, z, aa⟩ := Kd.at_int (Kd.R_reads' l.out).2.2 a n o; cases z; obtain ⟨n, o⟩ := e2_ n o; go_wp2
      go_roundg k1
      case measure => have := s.out; omega
      case rel => exact ⟨(q), (wrap64 (a + 1)), rs_, rs_, H', ⟨by have := s.out; omega⟩, ⟨onR l⟩, ⟨bkn c⟩, ⟨bn HB⟩⟩
    ·rw [if_neg p] at H; have U := decide_eq_false p; clear p; obtain rfl := Option.some.inj H; obtain ⟨ak, al, ad⟩ := Kd.R_slice l.out; subst ad; go_wp2
     go_ret
     exact ⟨er_, bn HB⟩
 ·obtain rfl := nt_ y; rw [if_neg nf_] at H; obtain rfl := Option.some.inj H; go_enter Try.func105, Try.ntmps105
  go_wp2_with (first | ((with_reducible refine gate_dst (N := 1) rfl ?_); refine bx_ 1 #[.int .i64 d, .slice i b.length j] 31 HB ?_; clear HB; intro E hg w16 hb c J HB; clear hb hg; have an := c2 c) | ((with_reducible refine gate_callee (f := 41) rfl ?_); refine gl_ (some 7) Try.func41 #[.agg #[.int .i64 d, .slice i b.length j]] ?_; (with_reducible refine (spec_NetOk.calls k d _ _ b false _ ?z_1 ?z_2 D.out).mono ?_); (case z_1 => exact cb t HB); (case z_2 => exact u.out); rintro e w18 ⟨rfl, hb⟩; refine ⟨_, rfl, ?_⟩; replace c := bb c hb; replace HB := bs HB hb; (try clear hb)))
  go_ret
  exact ⟨er_, bn HB⟩

/-! ### spec_l12Parts: function 104 -/
def spec_l12Parts.f (k : Nat) (a0_0 : Int) (l0_1 : List (S33)) (a1 : Int) : Option (Int) := (spec_NetWithout.f k a0_0 l0_1 a1).bind fun bt902 => ((spec_WayCount.f k bt902.1 bt902.2).bind fun t906 => (some (wrap64 (t906 - 1))))
theorem spec_l12Parts.mono : ∀ a b c k, LeO (spec_l12Parts.f k a b c) (spec_l12Parts.f (k + 1) a b c) := by
 intro a b c k; unfold spec_l12Parts.f; have m0_ := @spec_NetWithout.mono; have m1_ := @spec_WayCount.mono; exact mo_
set_option maxHeartbeats 8000000 in
set_option maxRecDepth 100000 in
theorem spec_l12Parts.calls (k : Nat) (b : Int) (i : Option Addr) (j : Nat) (a : List (S33)) (c : Int) (r : Int) (w : World) (o : Kd.C k33 w i a.length a) (p : a.length ≤ j) (h : spec_l12Parts.f k b a c = some r) :
  Calls Try.prog 104 #[.agg #[.int .i64 b, .slice i a.length j], .int .i64 c] w fun e w' => e = .returned (.int .i64 r) ∧ Below w.heap.size w w' := by
 have D := Try.underlying31; have t := am o; have u := am p; clear o p; have HB := am (Below.refl w.heap.size w)
 have H : ((spec_NetWithout.f k b a c).bind fun q => ((spec_WayCount.f k q.1 q.2).bind fun l => (some (wrap64 (l - 1))))) = some r := h
 clear h; obtain ⟨⟨m, n⟩, x, H⟩ := bi_ H; (try dsimp only at H); obtain ⟨l, y, H⟩ := bi_ H; obtain rfl := Option.some.inj H; go_enter Try.func104, Try.ntmps104
 go_wp2_with (first | ((with_reducible refine gate_dst (N := 2) rfl ?_); refine bx_ 2 #[.int .i64 b, .slice i a.length j] 31 HB ?_; clear HB; intro E hg w5 hb d G HB; clear hb hg; have I := c2 d) | ((with_reducible refine gate_callee (f := 122) rfl ?_); refine gl_ (some 7) Try.func122 #[.agg #[.int .i64 b, .slice i a.length j], .int .i64 c] ?_; (with_reducible refine (spec_NetWithout.calls k b _ _ a c m n _ ?z_1 ?z_2 x.out).mono ?_); (case z_1 => exact cb t HB); (case z_2 => exact u.out); rintro e w7 ⟨J, rfl, s, hb⟩; refine ⟨_, rfl, ?_⟩; have g := am (Kd.R_lower s (below_size (bn HB))); replace d := bb d hb; replace HB := bs HB hb; (try clear hb s); obtain ⟨z, A, B⟩ := Kd.R_slice g.out; subst B) | ((with_reducible refine gate_callee (f := 105) rfl ?_); refine gl_ (some 8) Try.func105 #[.agg #[.int .i64 m, .slice z n.length A]] ?_; (with_reducible refine (spec_WayCount.calls k m _ _ n l _ ?z_1 ?z_2 y.out).mono ?_); (case z_1 => exact (Kd.R_reads' (onR g)).2.2); (case z_2 => exact (Kd.R_reads' g.out).2.1); rintro e w9 ⟨rfl, hb⟩; refine ⟨_, rfl, ?_⟩; replace g := am (Kd.R_below (onR g) hb); replace d := bb d hb; replace HB := bs HB hb; (try clear hb)))
 go_ret
 exact ⟨er_, bn HB⟩

/-! ### spec_BlockCuts: function 50 -/
def spec_BlockCuts.l0 : Nat → List Int → Int → Int → List (S33) → Option (List Int)
 | 0, _, _, _, _ => none
 | k + 1, x3, x4, x908000, x908001 => if x4 < x908000 then ((spec_l12Alone.f k x908000 x908001 x4).bind fun t912 => (if t912 = true then (spec_BlockCuts.l0 k x3 (wrap64 (x4 + 1)) x908000 x908001) else ((spec_l12Parts.f k x908000 x908001 x4).bind fun t913 => ((spec_WayCount.f k x908000 x908001).bind fun t914 => (if t913 > t914 then (if x3.length < 17592186044416 then (spec_BlockCuts.l0 k (x3 ++ [x4]) (wrap64 (x4 + 1)) x908000 x908001) else (none)) else (spec_BlockCuts.l0 k x3 (wrap64 (x4 + 1)) x908000 x908001)))))) else (some x3)
def spec_BlockCuts.f (k : Nat) (a0_0 : Int) (l0_1 : List (S33)) : Option (List Int) := (some (([] : List Int) : List Int)).bind fun y908 => ((spec_NetOk.f k a0_0 l0_1).bind fun t911 => (if t911 = true then (spec_BlockCuts.l0 k y908 0 a0_0 l0_1) else (some y908)))
theorem spec_BlockCuts.mono_l : ∀ k, (∀ a b c d, LeO (spec_BlockCuts.l0 k a b c d) (spec_BlockCuts.l0 (k + 1) a b c d))
 | 0 => fun _ _ _ _ r h => by simp [spec_BlockCuts.l0] at h
 | k + 1 => by
  have ih0 := spec_BlockCuts.mono_l k
  ·intro a b c d; unfold spec_BlockCuts.l0; have m0_ := @spec_NetOk.mono; have m1_ := @spec_WayCount.mono; have m2_ := @spec_l12Alone.mono; have m3_ := @spec_l12Parts.mono; exact mo_
theorem spec_BlockCuts.mono : ∀ a b k, LeO (spec_BlockCuts.f k a b) (spec_BlockCuts.f (k + 1) a b) := by
 intro a b k; have ih0 := spec_BlockCuts.mono_l k; unfold spec_BlockCuts.f; have m0_ := @spec_NetOk.mono; have m1_ := @spec_WayCount.mono; have m2_ := @spec_l12Alone.mono; have m3_ := @spec_l12Parts.mono; exact mo_
def spec_BlockCuts.T7 : Bool × List (List Nat × List Nat) := (true, [([], []), ([], []), ([0, 1], [0, 1]), ([2], [2]), ([3, 2], [3]), ([4], [4]), ([4], [4]), ([5, 6, 4, 4], [4, 5, 6]), ([4], [4]), ([8, 7, 4], [4, 8]), ([7, 9, 4], [4, 7, 9]), ([4, 10], [4, 10])])
def spec_BlockCuts.B7 : List Nat := [0, 0, 3, 7, 15, 31, 31, 127, 31, 511, 1023, 2047]
theorem spec_BlockCuts.tab7 : rtab .any (opsOf Try.f50 7) = spec_BlockCuts.T7 := by kernel_rfl
theorem spec_BlockCuts.bits7 : waitsOk spec_BlockCuts.T7.2 spec_BlockCuts.B7 = true := by kernel_rfl
set_option maxHeartbeats 8000000 in
set_option maxRecDepth 100000 in
theorem spec_BlockCuts.calls (k : Nat) (g : Int) (m : Option Addr) (n : Nat) (d : List (S33)) (r : List Int) (w : World) (U : Kd.C k33 w m d.length d) (W : d.length ≤ n) (h : spec_BlockCuts.f k g d = some r) :
  Calls Try.prog 50 #[.agg #[.int .i64 g, .slice m d.length n]] w fun e w' => ∃ X : Value, e = .returned (X) ∧ Kd.R (Kd.int .i64) 3 w' w.heap.size (fun _ => True) X r ∧ Below w.heap.size w w' := by
 have au := Try.underlying31; have o := am U; have p := am W; clear U W; have HB := am (Below.refl w.heap.size w)
 have H : ((some (([] : List Int) : List Int)).bind fun u => ((spec_NetOk.f k g d).bind fun A => (if A = true then (spec_BlockCuts.l0 k u 0 g d) else (some u)))) = some r := h
 clear h; obtain ⟨u, G⟩ : ∃ y_ : List Int, y_ = (([] : List Int)) := ⟨_, rfl⟩; replace H : ((spec_NetOk.f k g d).bind fun A => (if A = true then (spec_BlockCuts.l0 k u 0 g d) else (some u))) = some r := nh_ G H; have E := am G; clear G; obtain ⟨A, Y, H⟩ := bi_ H; by_cases I : A = true
 ·subst I; rw [if_pos rfl] at H; have H' := am H; clear H; go_enter Try.func50, Try.ntmps50
  go_wp2_with (first | ((with_reducible refine gate_dst (N := 1) rfl ?_); refine bx_ 1 #[.int .i64 g, .slice m d.length n] 31 HB ?_; clear HB; intro Z hg w4 hb a ag HB; clear hb hg) | ((with_reducible refine gate_dst (N := 5) rfl ?_); refine Kd.R_lit (Kd.int .i64) _ 3 ?hg (N := 5) ?hd (xs := ([] : List Int)) (inner := []) (ok := fun _ => True) (okp := fun _ => True) ?hr ?hp (fun _ hk => hk) trivial (Below.refl _ _) (Nat.le_refl _) (by simp) ?_; (case hd => rfl); (case hg => rfl); (case hr => first | (go_simp; done) | (go_simp; rfl)); (case hp => exact (Reps.none _ _)); intro ah w5 B hb J L; clear J L; (first | rw [← E.out] at B | (simp only [Int.reduceToNat] at B; rw [← E.out] at B)); have s := am (Kd.R_lower B (below_size (bn HB))); replace a := bb a hb; replace HB := bs HB hb; clear hb B; have ai := c2 a) | ((with_reducible refine gate_callee (f := 41) rfl ?_); refine gl_ (some 7) Try.func41 #[.agg #[.int .i64 g, .slice m d.length n]] ?_; (with_reducible refine (spec_NetOk.calls k g _ _ d true _ ?z_1 ?z_2 Y.out).mono ?_); (case z_1 => exact cb o HB); (case z_2 => exact p.out); rintro e w8 ⟨rfl, hb⟩; refine ⟨_, rfl, ?_⟩; replace s := am (Kd.R_below (onR s) hb); replace a := bb a hb; replace HB := bs HB hb; (try clear hb)))
  go_loopg [3, 4] k (fun kq v3 v4 w' => ∃ (t : List Int) (j : Int), v4 = .int .i64 j ∧ Aside0 (spec_BlockCuts.l0 kq t j g d = some r) ∧ Aside0 (kq ≤ k) ∧ Aside0 (Kd.R (Kd.int .i64) 3 w' w.heap.size (fun _ => True) v3 t) ∧ Bk w' Z (.cells #[.int .i64 g, (.slice m d.length n)] 31 (0, 0)) ∧ Aside0 (Below w.heap.size w w'))
  case atStart => exact ⟨(u), (0), rs_, H', ⟨Nat.le_refl _⟩, ⟨onR s⟩, ⟨bkn a⟩, ⟨bn HB⟩⟩
  case round =>
   clear H'; (try clear I ai); obtain ⟨t, j, rfl, HA, x, i, a, HB⟩ := hrel; cases gk with
   | zero => exact absurd HA.out (by simp [spec_BlockCuts.l0])
   | succ k1 =>
    have H := HA.out; clear HA; simp only [spec_BlockCuts.l0] at H; by_cases y : j < g
    ·rw [if_pos y] at H; have aj := decide_eq_true y; clear y; obtain ⟨ak, M, H⟩ := bi_ H; by_cases aa : ak = true
     ·subst aa; rw [if_pos rfl] at H; have H' := am H; clear H; have av := c2 a; try go_wp2
      replace i := dR i; replace a := dB a; replace HB := dL HB; refine s2_ 12 [] (bq a 0) (bq a 1) (fun l => ?_); refine with_tabW spec_BlockCuts.tab7 spec_BlockCuts.bits7 (fun c q => ?_); generalize wr.drew = w13 at i a HB l ⊢; refine pz_ 1 c ?_; refine tz_ 0 c q l ?_; refine on_ 2 c (fun K hK => ?_); refine gg_ Try.func103 #[.agg #[.int .i64 g, .slice m d.length n], .int .i64 j] ?_
      with_reducible refine (spec_l12Alone.calls k1 g _ _ d j true _ ?z_1 ?z_2 M.out).mono ?_
      (case z_1 => exact cb o HB); (case z_2 => exact p.out); rintro e w14 ⟨rfl, hb⟩; refine ⟨_, rfl, ?_⟩; replace i := am (Kd.R_below (onR i) hb); replace a := bb a hb; replace HB := bs HB hb; (try clear hb hk); refine hK.out _ _ ⟨(bc a 0), (bc a 1)⟩ (fun l => ?_); clear hK K; refine nz_ 18 ?_; refine pz_ 3 c ?_; refine pz_ 4 c ?_; refine pu_ 5 c ?_; refine pu_ 6 c ?_; refine pu_ 7 c ?_; refine pu_ 8 c ?_; refine pu_ 9 c ?_; refine pu_ 10 c ?_; refine pz_ 11 c ?_; refine done_ (done_of c.out (by kernel_rfl)) ?_; try go_wp2
      go_roundg k1
      case measure => have := x.out; omega
      case rel => exact ⟨(t), (wrap64 (j + 1)), rs_, H', ⟨by have := x.out; omega⟩, ⟨onR i⟩, ⟨bkn a⟩, ⟨bn HB⟩⟩
     ·obtain rfl := nt_ aa; rw [if_neg nf_] at H; obtain ⟨O, ab, H⟩ := bi_ H; obtain ⟨P, ad, H⟩ := bi_ H; by_cases z : O > P
      ·rw [if_pos z] at H; have al := decide_eq_true z; clear z; obtain ⟨ae, H⟩ := ig_ H; have an := am ae; clear ae; obtain ⟨af, T⟩ : ∃ y_ : List Int, y_ = (t ++ [j]) := ⟨_, rfl⟩; replace H : (spec_BlockCuts.l0 k1 af (wrap64 (j + 1)) g d) = some r := nh_ T H; have ap := am T; clear T; have H' := am H; clear H; have aw := c2 a; try go_wp2
       replace i := dR i; replace a := dB a; replace HB := dL HB; refine s2_ 12 [] (bq a 0) (bq a 1) (fun l => ?_); refine with_tabW spec_BlockCuts.tab7 spec_BlockCuts.bits7 (fun c q => ?_); generalize wr.drew = w20 at i a HB l ⊢; refine pz_ 1 c ?_; refine tz_ 0 c q l ?_; refine on_ 2 c (fun K hK => ?_); refine gg_ Try.func103 #[.agg #[.int .i64 g, .slice m d.length n], .int .i64 j] ?_
       with_reducible refine (spec_l12Alone.calls k1 g _ _ d j false _ ?z_1 ?z_2 M.out).mono ?_
       (case z_1 => exact cb o HB); (case z_2 => exact p.out); rintro e w21 ⟨rfl, hb⟩; refine ⟨_, rfl, ?_⟩; replace i := am (Kd.R_below (onR i) hb); replace a := bb a hb; replace HB := bs HB hb; (try clear hb hk); refine hK.out _ _ ⟨(bc a 0), (bc a 1)⟩ (fun l => ?_); clear hK K; refine nz_ 18 ?_; refine pz_ 3 c ?_; refine pz_ 4 c ?_; refine pz_ 6 c ?_; refine tz_ 5 c q l ?_; refine tz_ 8 c q l ?_; refine on_ 7 c (fun K hK => ?_); refine gg_ Try.func104 #[.agg #[.int .i64 g, .slice m d.length n], .int .i64 j] ?_
       with_reducible refine (spec_l12Parts.calls k1 g _ _ d j O _ ?z_1 ?z_2 ab.out).mono ?_
       (case z_1 => exact cb o HB); (case z_2 => exact p.out); rintro e w22 ⟨rfl, hb⟩; refine ⟨_, rfl, ?_⟩; replace i := am (Kd.R_below (onR i) hb); replace a := bb a hb; replace HB := bs HB hb; (try clear hb hk); refine hK.out _ _ ⟨(bc a 0), (bc a 1)⟩ (fun l => ?_); clear hK K; refine nz_ 23 ?_; refine on_ 9 c (fun K hK => ?_); refine gg_ Try.func105 #[.agg #[.int .i64 g, .slice m d.length n]] ?_
       with_reducible refine (spec_WayCount.calls k1 g _ _ d P _ ?z_1 ?z_2 ad.out).mono ?_
       (case z_1 => exact cb o HB); (case z_2 => exact p.out); rintro e w23 ⟨rfl, hb⟩; refine ⟨_, rfl, ?_⟩; replace i := am (Kd.R_below (onR i) hb); replace a := bb a hb; replace HB := bs HB hb; (try clear hb hk); refine hK.out _ _ ⟨(bc a 0), (bc a 1)⟩ (fun l => ?_); clear hK K; refine nz_ 25 ?_; refine pz_ 10 c ?_; refine pz_ 11 c ?_; refine done_ (done_of c.out (by kernel_rfl)) ?_
       try go_wp2_with (first | ((with_reducible refine gate_builtin (b := .append) (xs := #[.tmp 28, .tmp 30]) rfl ?_); at_builtin; refine Kd.R_append (Kd.int .i64) (w0 := w) w.heap.size rfl (.tmp 28) (.tmp 30) 57 3 (.int .i64 0) 8 rfl Try.underlying57 info3 rfl (by decide) (by omega) u3 t j [.int .i64 j] (fun _ => True) (fun _ => False) rfl rfl ?aP (fun _ hk => hk.elim) ?aF ?aO ?aB ?aS ?aL ?_; (case aP => exact rfl); (case aB => exact (bn HB)); (case aF => exact (fun _ _ => trivial)); (case aO => exact (onR i)); (case aS => exact (below_size (bn HB))); (case aL => have := an.out; omega); intro ax w24 ho hb hg aq; rw [← ap.out] at ho; replace a := bm (blk_grown (bkn a) hg (Kd.R_ne i.out a.out (by decide))); replace HB := am hb; have ar := am ho; clear i; clear ho hb hg aq))
       go_roundg k1
       case measure => have := x.out; omega
       case rel => exact ⟨(af), (wrap64 (j + 1)), rs_, H', ⟨by have := x.out; omega⟩, ⟨onR ar⟩, ⟨bkn a⟩, ⟨bn HB⟩⟩
      ·rw [if_neg z] at H; have al := decide_eq_false z; clear z; have H' := am H; clear H; have ay := c2 a; try go_wp2
       replace i := dR i; replace a := dB a; replace HB := dL HB; refine s2_ 12 [] (bq a 0) (bq a 1) (fun l => ?_); refine with_tabW spec_BlockCuts.tab7 spec_BlockCuts.bits7 (fun c q => ?_); generalize wr.drew = w26 at i a HB l ⊢; refine pz_ 1 c ?_; refine tz_ 0 c q l ?_; refine on_ 2 c (fun K hK => ?_); refine gg_ Try.func103 #[.agg #[.int .i64 g, .slice m d.length n], .int .i64 j] ?_
       with_reducible refine (spec_l12Alone.calls k1 g _ _ d j false _ ?z_1 ?z_2 M.out).mono ?_
       (case z_1 => exact cb o HB); (case z_2 => exact p.out); rintro e w27 ⟨rfl, hb⟩; refine ⟨_, rfl, ?_⟩; replace i := am (Kd.R_below (onR i) hb); replace a := bb a hb; replace HB := bs HB hb; (try clear hb hk); refine hK.out _ _ ⟨(bc a 0), (bc a 1)⟩ (fun l => ?_); clear hK K; refine nz_ 18 ?_; refine pz_ 3 c ?_; refine pz_ 4 c ?_; refine pz_ 6 c ?_; refine tz_ 5 c q l ?_; refine tz_ 8 c q l ?_; refine on_ 7 c (fun K hK => ?_); refine gg_ Try.func104 #[.agg #[.int .i64 g, .slice m d.length n], .int .i64 j] ?_
       with_reducible refine (spec_l12Parts.calls k1 g _ _ d j O _ ?z_1 ?z_2 ab.out).mono ?_
       (case z_1 => exact cb o HB); (case z_2 => exact p.out); rintro e w28 ⟨rfl, hb⟩; refine ⟨_, rfl, ?_⟩; replace i := am (Kd.R_below (onR i) hb); replace a := bb a hb; replace HB := bs HB hb; (try clear hb hk); refine hK.out _ _ ⟨(bc a 0), (bc a 1)⟩ (fun l => ?_); clear hK K; refine nz_ 23 ?_; refine on_ 9 c (fun K hK => ?_); refine gg_ Try.func105 #[.agg #[.int .i64 g, .slice m d.length n]] ?_
       with_reducible refine (spec_WayCount.calls k1 g _ _ d P _ ?z_1 ?z_2 ad.out).mono ?_
       (case z_1 => exact cb o HB); (case z_2 => exact p.out); rintro e w29 ⟨rfl, hb⟩; refine ⟨_, rfl, ?_⟩; replace i := am (Kd.R_below (onR i) hb); replace a := bb a hb; replace HB := bs HB hb; (try clear hb hk); refine hK.out _ _ ⟨(bc a 0), (bc a 1)⟩ (fun l => ?_); clear hK K; refine nz_ 25 ?_; refine pz_ 10 c ?_; refine pz_ 11 c ?_; refine done_ (done_of c.out (by kernel_rfl)) ?_; try go_wp2
       go_roundg k1
       case measure => have := x.out; omega
       case rel => exact ⟨(t), (wrap64 (j + 1)), rs_, H', ⟨by have := x.out; omega⟩, ⟨onR i⟩, ⟨bkn a⟩, ⟨bn HB⟩⟩
    ·rw [if_neg y] at H; have aj := decide_eq_false y; clear y; obtain rfl := Option.some.inj H; have az := c2 a; go_wp2
     go_ret
     exact ⟨_, er_, onR i, bn HB⟩
 ·obtain rfl := nt_ I; rw [if_neg nf_] at H; obtain rfl := Option.some.inj H; go_enter Try.func50, Try.ntmps50
  go_wp2_with (first | ((with_reducible refine gate_dst (N := 1) rfl ?_); refine bx_ 1 #[.int .i64 g, .slice m d.length n] 31 HB ?_; clear HB; intro Z hg w31 hb a ag HB; clear hb hg) | ((with_reducible refine gate_dst (N := 5) rfl ?_); refine Kd.R_lit (Kd.int .i64) _ 3 ?hg (N := 5) ?hd (xs := ([] : List Int)) (inner := []) (ok := fun _ => True) (okp := fun _ => True) ?hr ?hp (fun _ hk => hk) trivial (Below.refl _ _) (Nat.le_refl _) (by simp) ?_; (case hd => rfl); (case hg => rfl); (case hr => first | (go_simp; done) | (go_simp; rfl)); (case hp => exact (Reps.none _ _)); intro ah w32 D hb J L; clear J L; (first | rw [← E.out] at D | (simp only [Int.reduceToNat] at D; rw [← E.out] at D)); have s := am (Kd.R_lower D (below_size (bn HB))); replace a := bb a hb; replace HB := bs HB hb; clear hb D; have aA := c2 a) | ((with_reducible refine gate_callee (f := 41) rfl ?_); refine gl_ (some 7) Try.func41 #[.agg #[.int .i64 g, .slice m d.length n]] ?_; (with_reducible refine (spec_NetOk.calls k g _ _ d false _ ?z_1 ?z_2 Y.out).mono ?_); (case z_1 => exact cb o HB); (case z_2 => exact p.out); rintro e w35 ⟨rfl, hb⟩; refine ⟨_, rfl, ?_⟩; replace s := am (Kd.R_below (onR s) hb); replace a := bb a hb; replace HB := bs HB hb; (try clear hb)))
  go_ret
  exact ⟨_, er_, onR s, bn HB⟩

end Go.Proofs.Ythmddmobfkfgeaa.F
