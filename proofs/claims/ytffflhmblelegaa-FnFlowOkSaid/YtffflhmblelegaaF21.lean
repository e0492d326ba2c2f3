-- By oprint.py.
import Derived.Test.YtffflhmblelegaaF0
namespace Go.Proofs.Ytffflhmblelegaa.F
open Go.RowKit Go.Proofs.YtffflhmblelegaaW.PrintWords Go.Proofs.YtffflhmblelegaaW.PrintLast Go.Proofs.YtffflhmblelegaaW.PrintMore
attribute [local go_sem] max2_int min2_int max_two min_two max_three min_three max_four min_four
set_option linter.unusedVariables false
set_option linter.unusedSimpArgs false

/-! ### laws_loBack: function 13 -/
def laws_loBack.l0 : Nat → List Int → List Int → Int → Option (List Int)
 | 0, _, _, _ => none
 | k + 1, x0, x3, x4 => if x4 ≥ 0 then (if 0 ≤ x4 then (if x4 < (x0.length : Int) then (if x3.length < 17592186044416 then (laws_loBack.l0 k x0 (x3 ++ [rd x0 x4]) (wrap64 (x4 - 1))) else (none)) else (none)) else (none)) else (some x3)
def laws_loBack.f (k : Nat) (l0 : List Int) : Option (List Int) := laws_loBack.l0 k l0 (([] : List Int)) (wrap64 ((l0.length : Int) - 1))
theorem laws_loBack.mono_l : ∀ k, (∀ a b c, LeO (laws_loBack.l0 k a b c) (laws_loBack.l0 (k + 1) a b c))
 | 0 => fun _ _ _ r h => by simp [laws_loBack.l0] at h
 | k + 1 => by
  have ih0 := laws_loBack.mono_l k
  ·intro a b c; unfold laws_loBack.l0; exact mo_
theorem laws_loBack.mono : ∀ a k, LeO (laws_loBack.f k a) (laws_loBack.f (k + 1) a) := by
 intro a k; have ih0 := laws_loBack.mono_l k; unfold laws_loBack.f; exact mo_
set_option maxHeartbeats 8000000 in
set_option maxRecDepth 100000 in
theorem laws_loBack.calls (k : Nat) (o : Option Addr) (p : Nat) (l0 : List Int) (r : List Int) (w : World) (q : Kd.C (Kd.int .i64) w o l0.length l0) (s : l0.length ≤ p) (h : laws_loBack.f k l0 = some r) :
  Calls Try.prog 13 #[.slice o l0.length p] w fun e w' => ∃ t : Value, e = .returned (t) ∧ Kd.R (Kd.int .i64) 3 w' w.heap.size (fun _ => True) t r ∧ Below w.heap.size w w' := by
 have D := am q; have HC0 := am s; clear q s; have HB := am (Below.refl w.heap.size w)
 have H : (laws_loBack.l0 k l0 (([] : List Int)) (wrap64 ((l0.length : Int) - 1))) = some r := h
 clear h; obtain ⟨u, i⟩ : ∃ y_ : List Int, y_ = (([] : List Int)) := ⟨_, rfl⟩; replace H : (laws_loBack.l0 k l0 u (wrap64 ((l0.length : Int) - 1))) = some r := nh_ i H; have x := am i; clear i; have H' := am H; clear H; go_enter Try.func13, Try.ntmps13
 go_wp2_with (first | ((with_reducible refine gate_dst (N := 5) rfl ?_); refine Kd.R_lit (Kd.int .i64) _ 3 ?hg (N := 5) ?hd (xs := ([] : List Int)) (inner := []) (ok := fun _ => True) (okp := fun _ => True) ?hr ?hp (fun _ hk => hk) trivial (Below.refl _ _) (Nat.le_refl _) (by simp) ?_; (case hd => rfl); (case hg => rfl); (case hr => first | (go_simp; done) | (go_simp; rfl)); (case hp => exact (Reps.none _ _)); intro W w2 d hb E G; clear E G; (first | rw [← x.out] at d | (simp only [Int.reduceToNat] at d; rw [← x.out] at d)); have I := am (Kd.R_lower d (below_size (bn HB))); replace HB := bs HB hb; clear hb d))
 go_loopg [3, 4] k (fun kq J K w' => ∃ (g : List Int) (a : Int), K = .int .i64 a ∧ Aside0 (laws_loBack.l0 kq l0 g a = some r) ∧ Aside0 (kq ≤ k) ∧ Aside0 (Kd.R (Kd.int .i64) 3 w' w.heap.size (fun _ => True) J g) ∧ Aside0 (Below w.heap.size w w'))
 case atStart => exact ⟨(u), (wrap64 ((l0.length : Int) - 1)), rs_, H', ⟨Nat.le_refl _⟩, ⟨onR I⟩, ⟨bn HB⟩⟩
 case round =>
  clear H'; obtain ⟨g, a, rfl, HA, y, j, HB⟩ := hrel; cases gk with
  | zero => exact absurd HA.out (by simp [laws_loBack.l0])
  | succ k1 =>
   have H := HA.out; clear HA; simp only [laws_loBack.l0] at H; by_cases c : a ≥ 0
   ·rw [if_pos c] at H; have L := decide_eq_true c; clear c; obtain ⟨X, H⟩ := id_ H; obtain ⟨Y, H⟩ := id_ H; obtain ⟨z, H⟩ := ig_ H; have M := am z; clear z; obtain ⟨A, l⟩ : ∃ y_ : List Int, y_ = (g ++ [rd l0 a]) := ⟨_, rfl⟩; replace H : (laws_loBack.l0 k1 l0 A (wrap64 (a - 1))) = some r := nh_ l H; have O := am l; clear l; have H' := am H; clear H; have m : 0 ≤ (a : Int) := oa; have n : a < (l0.length : Int) := oa; obtain ⟨Z, P, B⟩ := Kd.at_int D.out a m n; cases P; replace B := hc_ HB B; obtain ⟨m, n⟩ := e2_ m n
    go_wp2_with (first | ((with_reducible refine gate_builtin (b := .append) (xs := #[.tmp 13, .tmp 18]) rfl ?_); at_builtin; refine Kd.R_append (Kd.int .i64) (w0 := w) w.heap.size rfl (.tmp 13) (.tmp 18) 30 3 (.int .i64 0) 8 rfl Try.underlying30 info3 rfl (by decide) (by omega) u3 g (rd l0 a) [.int .i64 (rd l0 a)] (fun _ => True) (fun _ => False) rfl rfl ?aP (fun _ hk => hk.elim) ?aF ?aO ?aB ?aS ?aL ?_; (case aP => exact rfl); (case aB => exact (bn HB)); (case aF => exact (fun _ _ => trivial)); (case aO => exact (onR j)); (case aS => exact (below_size (bn HB))); (case aL => have := M.out; omega); intro aa w8 ho hb hg T; rw [← O.out] at ho; replace HB := am hb; have U := am ho; clear j; clear ho hb hg T))
    go_roundg k1
    case measure => have := y.out; omega
    case rel => exact ⟨(A), (wrap64 (a - 1)), rs_, H', ⟨by have := y.out; omega⟩, ⟨onR U⟩, ⟨bn HB⟩⟩
   ·rw [if_neg c] at H; have L := decide_eq_false c; clear c; obtain rfl := Option.some.inj H; go_wp2
    go_ret
    exact ⟨_, er_, onR j, bn HB⟩

end Go.Proofs.Ytffflhmblelegaa.F
