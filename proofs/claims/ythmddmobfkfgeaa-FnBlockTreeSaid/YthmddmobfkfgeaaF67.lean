-- By oprint.py.
import Derived.Test.YthmddmobfkfgeaaF0
import Derived.Test.YthmddmobfkfgeaaF20
import Derived.Test.YthmddmobfkfgeaaF25
namespace Go.Proofs.Ythmddmobfkfgeaa.F
open Go.RowKit Go.Proofs.YthmddmobfkfgeaaW.PrintWords Go.Proofs.YthmddmobfkfgeaaW.PrintLast Go.Proofs.YthmddmobfkfgeaaW.PrintMore
attribute [local go_sem] max2_int min2_int max_two min_two max_three min_three max_four min_four
set_option linter.unusedVariables false
set_option linter.unusedSimpArgs false

/-! ### spec_DrawBlockTree: function 67 -/
def spec_DrawBlockTree.f (k : Nat) (l0 : List Int) : Option (Int × (List (S33))) := (spec_l6Open.f l0).bind fun bt1213 => ((spec_l71Any.f k bt1213.1 bt1213.2).bind fun bt1216 => (some (bt1216.1, bt1216.2.1)))
theorem spec_DrawBlockTree.mono : ∀ a k, LeO (spec_DrawBlockTree.f k a) (spec_DrawBlockTree.f (k + 1) a) := by
 intro a k; unfold spec_DrawBlockTree.f; have m0_ := @spec_l71Any.mono; exact mo_
set_option maxHeartbeats 8000000 in
set_option maxRecDepth 100000 in
theorem spec_DrawBlockTree.calls (k : Nat) (d : Option Addr) (g : Nat) (a : List Int) (i : Int) (j : List (S33)) (w : World) (l : Kd.C (Kd.int .u8) w d a.length a) (m : a.length ≤ g) (h : spec_DrawBlockTree.f k a = some (i, j)) :
  Calls Try.prog 67 #[.slice d a.length g] w fun e w' => ∃ n : Value, e = .returned (.agg #[.int .i64 i, n]) ∧ Kd.R k33 33 w' w.heap.size (fun _ => True) n j ∧ Below w.heap.size w w' := by
 have T := Try.underlying31; have B := am l; have D := am m; clear l m; have HB := am (Below.refl w.heap.size w)
 have H : ((spec_l6Open.f a).bind fun o => ((spec_l71Any.f k o.1 o.2).bind fun p => (some (p.1, p.2.1)))) = some (i, j) := h
 clear h; obtain ⟨⟨q, s⟩, E, H⟩ := bi_ H; (try dsimp only at H); obtain ⟨⟨t, u, G⟩, I, H⟩ := bi_ H; (try dsimp only at H); simp only [Option.some.injEq, Prod.mk.injEq] at H; obtain ⟨rfl, rfl⟩ := H; go_enter Try.func67, Try.ntmps67
 go_wp2_with (first | ((with_reducible refine gate_dst (N := 2) rfl ?_); refine bx_ 2 #[.int .i64 0, .slice none 0 0] 31 HB ?_; clear HB; intro J hg w4 hb b U HB; clear hb hg) | ((with_reducible refine gate_callee (f := 89) rfl ?_); refine gl_ (some 4) Try.func89 #[.slice d a.length g] ?_; (with_reducible refine (spec_l6Open.calls _ _ a q s w _ ?z_1 ?z_2 ?z_3 E.out).mono ?_); (case z_1 => exact bn HB); (case z_2 => exact B.out); (case z_3 => exact D.out); rintro e w5 ⟨x, rfl, hi, hb, c⟩; refine ⟨_, rfl, ?_⟩; replace HB := am hb; have K := am hi; have L := am (IsS115.ne_blk hi (blk_below (bkn b) c) (by decide)); have y := am (Ne.symm (IsS115.ne_blk hi (blk_below (bkn b) c) (by decide))); replace b := bm (blk_below (bkn b) c); (try clear hb c hi)) | ((with_reducible refine gate_callee (f := 90) rfl ?_); refine gl_ (some 5) Try.func90 #[.pointer (some ⟨x, 0, none⟩)] ?_; (with_reducible refine (spec_l71Any.calls k x q s t u G w _ ?z_1 ?z_2 I.out).mono ?_); (case z_1 => exact IsS115.now); (case z_2 => exact bn HB); rintro e w6 ⟨W, rfl, z, hi, hb, hk⟩; refine ⟨_, rfl, ?_⟩; replace b := kb hk b y; have A := am (Kd.R_lower z (below_size (bn HB))); replace HB := am hb; replace K := am hi; (try clear hb hk hi z); have X := n2 y L; have Y := c2 b; obtain ⟨M, O, P⟩ := Kd.R_slice A.out; subst P))
 refine bodyPost_ret (results_cell_row rfl _ _ J 31 #[.int .i64 t, .slice M u.length O] (0, 0) _ rfl (bkn b) Try.underlying31 rfl (by kernel_rfl)) rfl ?_; exact ⟨_, er_, Kd.R_mono (onR A) (fun _ hk => trivial), bn HB⟩

/-! ### laws_loAlone: function 68 -/
mutual
def laws_loAlone.l0 : Nat → Int → Int → Int → List (S33) → Option (Int)
 | 0, _, _, _, _ => none
 | k + 1, x3, x4, x1222000, x1222001 => if x4 < x1222000 then (laws_loAlone.l1 k x3 x4 true 0 x1222000 x1222001) else (some x3)
def laws_loAlone.l1 : Nat → Int → Int → Bool → Int → Int → List (S33) → Option (Int)
 | 0, _, _, _, _, _, _ => none
 | k + 1, x3, x4, x5, x6, x1222000, x1222001 => if x6 < (x1222001.length : Int) then (if x5 = true then (if 0 ≤ x6 then (if ((rd_T33 x1222001 x6).f0) = x4 then (laws_loAlone.l1 k x3 x4 false (wrap64 (x6 + 1)) x1222000 x1222001) else (laws_loAlone.l1 k x3 x4 (((rd_T33 x1222001 x6).f1) != x4) (wrap64 (x6 + 1)) x1222000 x1222001)) else (none)) else (laws_loAlone.l1 k x3 x4 false (wrap64 (x6 + 1)) x1222000 x1222001)) else (if x5 = true then (laws_loAlone.l0 k (wrap64 (x3 + 1)) (wrap64 (x4 + 1)) x1222000 x1222001) else (laws_loAlone.l0 k x3 (wrap64 (x4 + 1)) x1222000 x1222001))
end
def laws_loAlone.f (k : Nat) (a0_0 : Int) (l0_1 : List (S33)) : Option (Int) := laws_loAlone.l0 k 0 0 a0_0 l0_1
theorem laws_loAlone.mono_l : ∀ k, (∀ a b c d, LeO (laws_loAlone.l0 k a b c d) (laws_loAlone.l0 (k + 1) a b c d)) ∧ (∀ a b c d e f, LeO (laws_loAlone.l1 k a b c d e f) (laws_loAlone.l1 (k + 1) a b c d e f))
 | 0 => ⟨fun _ _ _ _ r h => by simp [laws_loAlone.l0] at h, fun _ _ _ _ _ _ r h => by simp [laws_loAlone.l1] at h⟩
 | k + 1 => by
  obtain ⟨ih0, ih1⟩ := laws_loAlone.mono_l k; refine ⟨?_, ?_⟩
  ·intro a b c d; unfold laws_loAlone.l0; exact mo_
  ·intro a b c d e f; unfold laws_loAlone.l1; exact mo_
theorem laws_loAlone.mono : ∀ a b k, LeO (laws_loAlone.f k a b) (laws_loAlone.f (k + 1) a b) := by
 intro a b k; obtain ⟨ih0, ih1⟩ := laws_loAlone.mono_l k; unfold laws_loAlone.f; exact mo_
set_option maxHeartbeats 8000000 in
set_option maxRecDepth 100000 in
theorem laws_loAlone.calls (k : Nat) (j : Int) (s : Option Addr) (t : Nat) (b : List (S33)) (r : Int) (w : World) (E : Kd.C k33 w s b.length b) (G : b.length ≤ t) (h : laws_loAlone.f k j b = some r) :
  Calls Try.prog 68 #[.agg #[.int .i64 j, .slice s b.length t]] w fun e w' => e = .returned (.int .i64 r) ∧ Below w.heap.size w w' := by
 have af := Try.underlying31; have z := am E; have ag := am G; clear E G; have HB := am (Below.refl w.heap.size w)
 have H : (laws_loAlone.l0 k 0 0 j b) = some r := h
 clear h; have H' := am H; clear H; go_enter Try.func68, Try.ntmps68
 go_wp2_with (first | ((with_reducible refine gate_dst (N := 1) rfl ?_); refine bx_ 1 #[.int .i64 j, .slice s b.length t] 31 HB ?_; clear HB; intro I hg w2 hb c ah HB; clear hb hg))
 go_loopg [3, 4] k (fun kq T U w' => ∃ (p : Int) (d : Int), T = .int .i64 p ∧ U = .int .i64 d ∧ Aside0 (laws_loAlone.l0 kq p d j b = some r) ∧ Aside0 (kq ≤ k) ∧ Bk w' I (.cells #[.int .i64 j, (.slice s b.length t)] 31 (0, 0)) ∧ Aside0 (Below w.heap.size w w'))
 case atStart => exact ⟨(0), (0), rs_, rs_, H', ⟨Nat.le_refl _⟩, ⟨bkn c⟩, ⟨bn HB⟩⟩
 case round =>
  clear H'; obtain ⟨p, d, rfl, rfl, HA, g, c, HB⟩ := hrel; cases gk with
  | zero => exact absurd HA.out (by simp [laws_loAlone.l0])
  | succ k1 =>
   have H := HA.out; clear HA; simp only [laws_loAlone.l0] at H; by_cases l : d < j
   ·rw [if_pos l] at H; have J := decide_eq_true l; clear l; have H' := am H; clear H; have W := c2 c; go_wp2
    go_loopg [5, 6] k1 (fun kq X Y w' => ∃ (u : Bool) (a : Int), X = .bool u ∧ Y = .int .i64 a ∧ Aside0 (laws_loAlone.l1 kq p d u a j b = some r) ∧ Aside0 (kq ≤ k1) ∧ Bk w' I (.cells #[.int .i64 j, (.slice s b.length t)] 31 (0, 0)) ∧ Aside0 (Below w.heap.size w w'))
    case atStart => exact ⟨(true), (0), rs_, rs_, H', ⟨Nat.le_refl _⟩, ⟨bkn c⟩, ⟨bn HB⟩⟩
    case round =>
     clear H'; (try clear l J W); obtain ⟨u, a, rfl, rfl, HA, i, c, HB⟩ := hrel; cases gk with
     | zero => exact absurd HA.out (by simp [laws_loAlone.l1])
     | succ k2 =>
      have H := HA.out; clear HA; simp only [laws_loAlone.l1] at H; by_cases q : a < (b.length : Int)
      ·rw [if_pos q] at H; have Z := decide_eq_true q; clear q; by_cases K : u = true
       ·subst K; rw [if_pos rfl] at H; obtain ⟨ai, H⟩ := id_ H; by_cases m : ((rd_T33 b a).f0) = d
        ·rw [if_pos m] at H; have aa : (((rd_T33 b a).f0) == d) = true := beq_iff_eq.mpr m; have ab : (((rd_T33 b a).f0) != d) = false := bne_eq_false_iff_eq.mpr m; clear m; have H' := am H; clear H; have aj := c2 c; have n : 0 ≤ (a : Int) := oa; have o : a < (b.length : Int) := oa; obtain ⟨L, A, x, y⟩ := at_T33 z.out a n o; cases A; replace x := hc_ HB x; replace y := hc_ HB y; obtain ⟨n, o⟩ := e2_ n o; go_wp2
         go_roundg k2
         case measure => have := g.out; have := i.out; omega
         case rel => exact ⟨(false), (wrap64 (a + 1)), rs_, rs_, H', ⟨by have := g.out; have := i.out; omega⟩, ⟨bkn c⟩, ⟨bn HB⟩⟩
        ·rw [if_neg m] at H; have aa : (((rd_T33 b a).f0) == d) = false := beq_eq_false_iff_ne.mpr m; have ab : (((rd_T33 b a).f0) != d) = true := bne_iff_ne.mpr m; have H' := am H; clear H; have ak := c2 c; have n : 0 ≤ (a : Int) := oa; have o : a < (b.length : Int) := oa; obtain ⟨L, A, x, y⟩ := at_T33 z.out a n o; cases A; replace x := hc_ HB x; replace y := hc_ HB y; obtain ⟨n, o⟩ := e2_ n o; have B : 0 ≤ (a : Int) := oa; have D : a < (b.length : Int) := oa; obtain ⟨ad, ae, M, O⟩ := at_T33 z.out a B D; obtain rfl : L = ad := (by injection ae); replace M := hc_ HB M; replace O := hc_ HB O; obtain ⟨B, D⟩ := e2_ B D; go_wp2
         go_roundg k2
         case measure => have := g.out; have := i.out; omega
         case rel => exact ⟨((((rd_T33 b a).f1) != d)), (wrap64 (a + 1)), rs_, rs_, H', ⟨by have := g.out; have := i.out; omega⟩, ⟨bkn c⟩, ⟨bn HB⟩⟩
       ·obtain rfl := nt_ K; rw [if_neg nf_] at H; have H' := am H; clear H; have al := c2 c; go_wp2
        go_roundg k2
        case measure => have := g.out; have := i.out; omega
        case rel => exact ⟨(false), (wrap64 (a + 1)), rs_, rs_, H', ⟨by have := g.out; have := i.out; omega⟩, ⟨bkn c⟩, ⟨bn HB⟩⟩
      ·rw [if_neg q] at H; have Z := decide_eq_false q; clear q; by_cases P : u = true
       ·subst P; rw [if_pos rfl] at H; have H' := am H; clear H; have an := c2 c; go_wp2
        go_roundg k2
        case measure => have := g.out; have := i.out; omega
        case rel => exact ⟨(wrap64 (p + 1)), (wrap64 (d + 1)), rs_, rs_, H', ⟨by have := g.out; have := i.out; omega⟩, ⟨bkn c⟩, ⟨bn HB⟩⟩
       ·obtain rfl := nt_ P; rw [if_neg nf_] at H; have H' := am H; clear H; have ap := c2 c; go_wp2
        go_roundg k2
        case measure => have := g.out; have := i.out; omega
        case rel => exact ⟨(p), (wrap64 (d + 1)), rs_, rs_, H', ⟨by have := g.out; have := i.out; omega⟩, ⟨bkn c⟩, ⟨bn HB⟩⟩
   ·rw [if_neg l] at H; have J := decide_eq_false l; clear l; obtain rfl := Option.some.inj H; have aq := c2 c; go_wp2
    go_ret
    exact ⟨er_, bn HB⟩

end Go.Proofs.Ythmddmobfkfgeaa.F
