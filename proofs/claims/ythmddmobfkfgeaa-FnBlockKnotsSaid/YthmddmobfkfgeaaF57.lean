-- By oprint.py.
import Derived.Test.YthmddmobfkfgeaaF0
import Derived.Test.YthmddmobfkfgeaaF20
import Derived.Test.YthmddmobfkfgeaaF25
import Derived.Test.YthmddmobfkfgeaaF49
namespace Go.Proofs.Ythmddmobfkfgeaa.F
open Go.RowKit Go.Proofs.YthmddmobfkfgeaaW.PrintWords Go.Proofs.YthmddmobfkfgeaaW.PrintLast Go.Proofs.YthmddmobfkfgeaaW.PrintMore
attribute [local go_sem] max2_int min2_int max_two min_two max_three min_three max_four min_four
set_option linter.unusedVariables false
set_option linter.unusedSimpArgs false

/-! ### spec_DrawBlockKnots: function 57 -/
def spec_DrawBlockKnots.f (k : Nat) (l0 : List Int) : Option (Int × (List (S33))) := (spec_l6Open.f l0).bind fun bt1005 => ((spec_l71Any.f k bt1005.1 bt1005.2).bind fun bt1008 => (some (bt1008.1, bt1008.2.1)))
theorem spec_DrawBlockKnots.mono : ∀ a k, LeO (spec_DrawBlockKnots.f k a) (spec_DrawBlockKnots.f (k + 1) a) := by
 intro a k; unfold spec_DrawBlockKnots.f; have m0_ := @spec_l71Any.mono; exact mo_
set_option maxHeartbeats 8000000 in
set_option maxRecDepth 100000 in
theorem spec_DrawBlockKnots.calls (k : Nat) (d : Option Addr) (g : Nat) (a : List Int) (i : Int) (j : List (S33)) (w : World) (l : Kd.C (Kd.int .u8) w d a.length a) (m : a.length ≤ g) (h : spec_DrawBlockKnots.f k a = some (i, j)) :
  Calls Try.prog 57 #[.slice d a.length g] w fun e w' => ∃ n : Value, e = .returned (.agg #[.int .i64 i, n]) ∧ Kd.R k33 33 w' w.heap.size (fun _ => True) n j ∧ Below w.heap.size w w' := by
 have T := Try.underlying31; have B := am l; have D := am m; clear l m; have HB := am (Below.refl w.heap.size w)
 have H : ((spec_l6Open.f a).bind fun o => ((spec_l71Any.f k o.1 o.2).bind fun p => (some (p.1, p.2.1)))) = some (i, j) := h
 clear h; obtain ⟨⟨q, s⟩, E, H⟩ := bi_ H; (try dsimp only at H); obtain ⟨⟨t, u, G⟩, I, H⟩ := bi_ H; (try dsimp only at H); simp only [Option.some.injEq, Prod.mk.injEq] at H; obtain ⟨rfl, rfl⟩ := H; go_enter Try.func57, Try.ntmps57
 go_wp2_with (first | ((with_reducible refine gate_dst (N := 2) rfl ?_); refine bx_ 2 #[.int .i64 0, .slice none 0 0] 31 HB ?_; clear HB; intro J hg w4 hb b U HB; clear hb hg) | ((with_reducible refine gate_callee (f := 89) rfl ?_); refine gl_ (some 4) Try.func89 #[.slice d a.length g] ?_; (with_reducible refine (spec_l6Open.calls _ _ a q s w _ ?z_1 ?z_2 ?z_3 E.out).mono ?_); (case z_1 => exact bn HB); (case z_2 => exact B.out); (case z_3 => exact D.out); rintro e w5 ⟨x, rfl, hi, hb, c⟩; refine ⟨_, rfl, ?_⟩; replace HB := am hb; have K := am hi; have L := am (IsS115.ne_blk hi (blk_below (bkn b) c) (by decide)); have y := am (Ne.symm (IsS115.ne_blk hi (blk_below (bkn b) c) (by decide))); replace b := bm (blk_below (bkn b) c); (try clear hb c hi)) | ((with_reducible refine gate_callee (f := 90) rfl ?_); refine gl_ (some 5) Try.func90 #[.pointer (some ⟨x, 0, none⟩)] ?_; (with_reducible refine (spec_l71Any.calls k x q s t u G w _ ?z_1 ?z_2 I.out).mono ?_); (case z_1 => exact IsS115.now); (case z_2 => exact bn HB); rintro e w6 ⟨W, rfl, z, hi, hb, hk⟩; refine ⟨_, rfl, ?_⟩; replace b := kb hk b y; have A := am (Kd.R_lower z (below_size (bn HB))); replace HB := am hb; replace K := am hi; (try clear hb hk hi z); have X := n2 y L; have Y := c2 b; obtain ⟨M, O, P⟩ := Kd.R_slice A.out; subst P))
 refine bodyPost_ret (results_cell_row rfl _ _ J 31 #[.int .i64 t, .slice M u.length O] (0, 0) _ rfl (bkn b) Try.underlying31 rfl (by kernel_rfl)) rfl ?_; exact ⟨_, er_, Kd.R_mono (onR A) (fun _ hk => trivial), bn HB⟩

/-! ### laws_loRows: function 58 -/
def laws_loRows.l0 : Nat → List (List Int) → List (List Int) → Int → Option (Bool)
 | 0, _, _, _ => none
 | k + 1, x0, x1, x5 => if x5 < (x0.length : Int) then (if 0 ≤ x5 then (if x5 < (x1.length : Int) then ((laws_loInts.f k (rd_L6 x0 x5) (rd_L6 x1 x5)).bind fun t1015 => (if t1015 = true then (laws_loRows.l0 k x0 x1 (wrap64 (x5 + 1))) else (some false))) else (none)) else (none)) else (some true)
def laws_loRows.f (k : Nat) (l0 : List (List Int)) (l1 : List (List Int)) : Option (Bool) := if (l0.length : Int) = (l1.length : Int) then (laws_loRows.l0 k l0 l1 0) else (some false)
theorem laws_loRows.mono_l : ∀ k, (∀ a b c, LeO (laws_loRows.l0 k a b c) (laws_loRows.l0 (k + 1) a b c))
 | 0 => fun _ _ _ r h => by simp [laws_loRows.l0] at h
 | k + 1 => by
  have ih0 := laws_loRows.mono_l k
  ·intro a b c; unfold laws_loRows.l0; have m0_ := @laws_loInts.mono; exact mo_
theorem laws_loRows.mono : ∀ a b k, LeO (laws_loRows.f k a b) (laws_loRows.f (k + 1) a b) := by
 intro a b k; have ih0 := laws_loRows.mono_l k; unfold laws_loRows.f; have m0_ := @laws_loInts.mono; exact mo_
set_option maxHeartbeats 8000000 in
set_option maxRecDepth 100000 in
theorem laws_loRows.calls (k : Nat) (B : Option Addr) (D : Nat) (l0 : List (List Int)) (E : Option Addr) (y : Nat) (b : List (List Int)) (r : Bool) (w : World) (G : Kd.C (Kd.slice 3 (Kd.int .i64)) w B l0.length l0) (I : l0.length ≤ D) (J : Kd.C (Kd.slice 3 (Kd.int .i64)) w E b.length b) (K : b.length ≤ y) (h : laws_loRows.f k l0 b = some r) :
  Calls Try.prog 58 #[.slice B l0.length D, .slice E b.length y] w fun e w' => e = .returned (.bool r) ∧ Drawn0 w w' := by
 have L := am G; have HC0 := am I; clear G I; have M := am J; have HC1 := am K; clear J K
 have H : (if (l0.length : Int) = (b.length : Int) then (laws_loRows.l0 k l0 b 0) else (some false)) = some r := h
 clear h; by_cases c : (l0.length : Int) = (b.length : Int)
 ·rw [if_pos c] at H; have O : ((l0.length : Int) == (b.length : Int)) = true := beq_iff_eq.mpr c; have P : ((l0.length : Int) != (b.length : Int)) = false := bne_eq_false_iff_eq.mpr c; have T : (l0.length == b.length) = true := by first | simpa using c | (simp at c ⊢; omega)
  clear c; have H' := am H; clear H; go_enter Try.func58, Try.ntmps58; go_wp2
  repeat (go_quiet (fail); try go_wp2)
  go_loopg [5] k (fun kq X w' => ∃ (a : Int), X = .int .i64 a ∧ Aside0 (laws_loRows.l0 kq l0 b a = some r) ∧ Aside0 (kq ≤ k) ∧ Drawn0 w w')
  case atStart => exact ⟨(0), rs_, H', ⟨Nat.le_refl _⟩, by repeat (first | exact Drawn0.refl _ | apply Drawn0.step)⟩
  case round =>
   clear H'; (try clear y c O P T); obtain ⟨a, rfl, HA, U, ⟨m1, rfl⟩⟩ := hrel; cases gk with
   | zero => exact absurd HA.out (by simp [laws_loRows.l0])
   | succ k1 =>
    have H := HA.out; clear HA; simp only [laws_loRows.l0] at H; by_cases p : a < (l0.length : Int)
    ·rw [if_pos p] at H; have Y := decide_eq_true p; clear p; obtain ⟨aj, H⟩ := id_ H; obtain ⟨ak, H⟩ := id_ H; obtain ⟨Z, q, H⟩ := bi_ H; by_cases W : Z = true
     ·subst W; rw [if_pos rfl] at H; have H' := am H; clear H; have d : 0 ≤ (a : Int) := oa; have g : a < (l0.length : Int) := oa; obtain ⟨aa, ab, ad, z, ae, s, t⟩ := at_L6 L.out a d g; cases z; have i := am t; have j := am s; clear t s; obtain ⟨d, g⟩ := e2_ d g; have l : 0 ≤ (a : Int) := oa; have m : a < (b.length : Int) := oa; obtain ⟨af, ag, ah, A, ai, u, x⟩ := at_L6 M.out a l m; cases A; have n := am x; have o := am u; clear x u; obtain ⟨l, m⟩ := e2_ l m
      go_wp2_with (first | (go_at_call 49; (with_reducible refine (laws_loInts.calls k1 _ _ (rd_L6 l0 a) _ _ (rd_L6 b a) true _ ?z_1 ?z_2 ?z_3 ?z_4 q.out).mono ?_); (case z_1 => repeat (first | exact i.out | (with_reducible refine Kd.C_alloc ?_ _) | (with_reducible refine Kd.C_drewN ?_ _) | (with_reducible refine Kd.C_drew ?_))); (case z_2 => exact j.out); (case z_3 => repeat (first | exact n.out | (with_reducible refine Kd.C_alloc ?_ _) | (with_reducible refine Kd.C_drewN ?_ _) | (with_reducible refine Kd.C_drew ?_))); (case z_4 => exact o.out); rintro e w' ⟨rfl, ⟨nd, rfl⟩⟩; (try first | exact ⟨rfl, _, World.drewN_drewN _ _ _⟩ | exact ⟨rfl, _, Eq.trans (World.drewN_drewN _ _ _) (congrArg (World.drewN _) (Nat.add_assoc _ _ _))⟩)))
      repeat (go_quiet (first | (go_at_call 49; (with_reducible refine (laws_loInts.calls k1 _ _ (rd_L6 l0 a) _ _ (rd_L6 b a) true _ ?z_1 ?z_2 ?z_3 ?z_4 q.out).mono ?_); (case z_1 => repeat (first | exact i.out | (with_reducible refine Kd.C_alloc ?_ _) | (with_reducible refine Kd.C_drewN ?_ _) | (with_reducible refine Kd.C_drew ?_))); (case z_2 => exact j.out); (case z_3 => repeat (first | exact n.out | (with_reducible refine Kd.C_alloc ?_ _) | (with_reducible refine Kd.C_drewN ?_ _) | (with_reducible refine Kd.C_drew ?_))); (case z_4 => exact o.out); rintro e w' ⟨rfl, ⟨nd, rfl⟩⟩; (try first | exact ⟨rfl, _, World.drewN_drewN _ _ _⟩ | exact ⟨rfl, _, Eq.trans (World.drewN_drewN _ _ _) (congrArg (World.drewN _) (Nat.add_assoc _ _ _))⟩))); try go_wp2_with (first | (go_at_call 49; (with_reducible refine (laws_loInts.calls k1 _ _ (rd_L6 l0 a) _ _ (rd_L6 b a) true _ ?z_1 ?z_2 ?z_3 ?z_4 q.out).mono ?_); (case z_1 => repeat (first | exact i.out | (with_reducible refine Kd.C_alloc ?_ _) | (with_reducible refine Kd.C_drewN ?_ _) | (with_reducible refine Kd.C_drew ?_))); (case z_2 => exact j.out); (case z_3 => repeat (first | exact n.out | (with_reducible refine Kd.C_alloc ?_ _) | (with_reducible refine Kd.C_drewN ?_ _) | (with_reducible refine Kd.C_drew ?_))); (case z_4 => exact o.out); rintro e w' ⟨rfl, ⟨nd, rfl⟩⟩; (try first | exact ⟨rfl, _, World.drewN_drewN _ _ _⟩ | exact ⟨rfl, _, Eq.trans (World.drewN_drewN _ _ _) (congrArg (World.drewN _) (Nat.add_assoc _ _ _))⟩))))
      go_roundg k1
      case measure => have := U.out; omega
      case rel => exact ⟨(wrap64 (a + 1)), rs_, H', ⟨by have := U.out; omega⟩, by repeat (first | exact Drawn0.refl _ | apply Drawn0.step)⟩
     ·obtain rfl := nt_ W; rw [if_neg nf_] at H; obtain rfl := Option.some.inj H; have d : 0 ≤ (a : Int) := oa; have g : a < (l0.length : Int) := oa; obtain ⟨aa, ab, ad, z, ae, s, t⟩ := at_L6 L.out a d g; cases z; have i := am t; have j := am s; clear t s; obtain ⟨d, g⟩ := e2_ d g; have l : 0 ≤ (a : Int) := oa; have m : a < (b.length : Int) := oa; obtain ⟨af, ag, ah, A, ai, u, x⟩ := at_L6 M.out a l m; cases A; have n := am x; have o := am u; clear x u; obtain ⟨l, m⟩ := e2_ l m
      go_wp2_with (first | (go_at_call 49; (with_reducible refine (laws_loInts.calls k1 _ _ (rd_L6 l0 a) _ _ (rd_L6 b a) false _ ?z_1 ?z_2 ?z_3 ?z_4 q.out).mono ?_); (case z_1 => repeat (first | exact i.out | (with_reducible refine Kd.C_alloc ?_ _) | (with_reducible refine Kd.C_drewN ?_ _) | (with_reducible refine Kd.C_drew ?_))); (case z_2 => exact j.out); (case z_3 => repeat (first | exact n.out | (with_reducible refine Kd.C_alloc ?_ _) | (with_reducible refine Kd.C_drewN ?_ _) | (with_reducible refine Kd.C_drew ?_))); (case z_4 => exact o.out); rintro e w' ⟨rfl, ⟨nd, rfl⟩⟩; (try first | exact ⟨rfl, _, World.drewN_drewN _ _ _⟩ | exact ⟨rfl, _, Eq.trans (World.drewN_drewN _ _ _) (congrArg (World.drewN _) (Nat.add_assoc _ _ _))⟩)))
      repeat (go_quiet (first | (go_at_call 49; (with_reducible refine (laws_loInts.calls k1 _ _ (rd_L6 l0 a) _ _ (rd_L6 b a) false _ ?z_1 ?z_2 ?z_3 ?z_4 q.out).mono ?_); (case z_1 => repeat (first | exact i.out | (with_reducible refine Kd.C_alloc ?_ _) | (with_reducible refine Kd.C_drewN ?_ _) | (with_reducible refine Kd.C_drew ?_))); (case z_2 => exact j.out); (case z_3 => repeat (first | exact n.out | (with_reducible refine Kd.C_alloc ?_ _) | (with_reducible refine Kd.C_drewN ?_ _) | (with_reducible refine Kd.C_drew ?_))); (case z_4 => exact o.out); rintro e w' ⟨rfl, ⟨nd, rfl⟩⟩; (try first | exact ⟨rfl, _, World.drewN_drewN _ _ _⟩ | exact ⟨rfl, _, Eq.trans (World.drewN_drewN _ _ _) (congrArg (World.drewN _) (Nat.add_assoc _ _ _))⟩))); try go_wp2_with (first | (go_at_call 49; (with_reducible refine (laws_loInts.calls k1 _ _ (rd_L6 l0 a) _ _ (rd_L6 b a) false _ ?z_1 ?z_2 ?z_3 ?z_4 q.out).mono ?_); (case z_1 => repeat (first | exact i.out | (with_reducible refine Kd.C_alloc ?_ _) | (with_reducible refine Kd.C_drewN ?_ _) | (with_reducible refine Kd.C_drew ?_))); (case z_2 => exact j.out); (case z_3 => repeat (first | exact n.out | (with_reducible refine Kd.C_alloc ?_ _) | (with_reducible refine Kd.C_drewN ?_ _) | (with_reducible refine Kd.C_drew ?_))); (case z_4 => exact o.out); rintro e w' ⟨rfl, ⟨nd, rfl⟩⟩; (try first | exact ⟨rfl, _, World.drewN_drewN _ _ _⟩ | exact ⟨rfl, _, Eq.trans (World.drewN_drewN _ _ _) (congrArg (World.drewN _) (Nat.add_assoc _ _ _))⟩))))
      go_ret
      exact ⟨rs_, by repeat (first | exact Drawn0.refl _ | apply Drawn0.step)⟩
    ·rw [if_neg p] at H; have Y := decide_eq_false p; clear p; obtain rfl := Option.some.inj H; go_wp2
     repeat (go_quiet (fail); try go_wp2)
     go_ret
     exact ⟨rs_, by repeat (first | exact Drawn0.refl _ | apply Drawn0.step)⟩
 ·rw [if_neg c] at H; have O : ((l0.length : Int) == (b.length : Int)) = false := beq_eq_false_iff_ne.mpr c; have P : ((l0.length : Int) != (b.length : Int)) = true := bne_iff_ne.mpr c; have T : (l0.length == b.length) = false := by first | simpa using c | (simp at c ⊢; omega)
  obtain rfl := Option.some.inj H; go_enter Try.func58, Try.ntmps58; go_wp2
  repeat (go_quiet (fail); try go_wp2)
  go_ret
  exact ⟨rs_, by repeat (first | exact Drawn0.refl _ | apply Drawn0.step)⟩

end Go.Proofs.Ythmddmobfkfgeaa.F
