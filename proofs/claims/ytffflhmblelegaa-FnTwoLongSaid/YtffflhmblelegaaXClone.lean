/-
slices.Clone at numbers: nil stays nil, a row is written anew.
-/
import Derived.Test.YtffflhmblelegaaF0
import Derived.Lib.BufferMore
namespace Go.Proofs.Ytffflhmblelegaa.F
open Go.RowKit Go.Proofs.YtffflhmblelegaaW.PrintWords Go.Proofs.YtffflhmblelegaaW.PrintLast Go.Proofs.YtffflhmblelegaaW.PrintMore
def slices_Clone_int_int.f (l0 : List Int) : Option (List Int) := if l0.length < 17592186044416 then some l0 else none
set_option maxHeartbeats 8000000 in
set_option maxRecDepth 100000 in
theorem slices_Clone_int_int.calls (j : Option Addr) (l : Nat) (a : List Int) (r : List Int) (w : World) (m : Kd.C (Kd.int .i64) w j a.length a) (n : a.length ≤ l) (h : slices_Clone_int_int.f a = some r) :
  Calls Try.prog 86 #[.slice j a.length l] w fun e w' => ∃ o : Value, e = .returned (o) ∧ Kd.R (Kd.int .i64) 3 w' w.heap.size (fun _ => True) o r ∧ Below w.heap.size w w' := by
 have s := am m; have HC0 := am n; have HB := am (Below.refl w.heap.size w)
 simp only [slices_Clone_int_int.f] at h
 obtain ⟨c2, H⟩ := ig_ h; have t := am c2; obtain rfl := Option.some.inj H; clear h H c2
 cases j with
 | none =>
  have e0 : a = [] := by
    cases a with
    | nil => rfl
    | cons x y =>
      obtain ⟨ad, hq, _⟩ := m.2.2 (by simp)
      cases hq
  subst e0
  clear m n; have he : ∀ w : World, (binOp .eql 30 (.slice none 0 l) (.slice none 0 0)).run Try.prog w = .ok (.bool true) w := fun w => Go.Lib.run_eql_slice_nil_nil w 0 l Try.underlying30
  go_enter Try.func86, Try.ntmps86; go_wp2
  go_ret
  exact ⟨_, er_, Kd.R_nil _ _ _ _ _, bn HB⟩
 | some ad =>
 clear m n
 obtain ⟨c, g⟩ : ∃ y_ : List Int, y_ = (([] : List Int)) := ⟨_, rfl⟩; have p := am g; clear g
 obtain ⟨u, i⟩ : ∃ y_ : List Int, y_ = (c ++ a) := ⟨_, rfl⟩; have x := am i; clear i
 have he : ∀ w : World, (binOp .eql 30 (.slice (some ad) a.length l) (.slice none 0 0)).run Try.prog w = .ok (.bool false) w := fun w => Go.Lib.run_eql_slice_some_nil w _ _ _ Try.underlying30
 have hua : u = a := by rw [x.out, p.out]; rfl
 go_enter Try.func86, Try.ntmps86
 go_wp2_with (first | ((with_reducible refine gate_dst (N := 5) rfl ?_); refine Kd.R_lit (Kd.int .i64) _ 3 ?hg (N := 5) ?hd (xs := ([] : List Int)) (inner := []) (ok := fun _ => True) (okp := fun _ => True) ?hr ?hp (fun _ hk => hk) trivial (Below.refl _ _) (Nat.le_refl _) (by simp) ?_; (case hd => rfl); (case hg => rfl); (case hr => first | (go_simp; done) | (go_simp; rfl)); (case hp => exact (Reps.none _ _)); intro y w3 d hb z A; clear z A; (first | rw [← p.out] at d | (simp only [Int.reduceToNat] at d; rw [← p.out] at d)); have q := am (Kd.R_lower d (below_size (bn HB))); replace HB := bs HB hb; clear hb d) | ((with_reducible refine gate_builtin (b := .append) (xs := #[.tmp 5, .tmp 6]) rfl ?_); at_builtin; refine Kd.R_append_rows (Kd.int .i64) (w0 := w) w.heap.size rfl (.tmp 5) (.tmp 6) 30 3 (.int .i64 0) 8 rfl Try.underlying30 info3 rfl (by decide) (by omega) y c a _ _ _ (fun _ => True) (fun _ => False) rfl rfl ?aO ?aR (fun _ _ h => h) (fun _ h => h.elim) ?aF ?aB ?aS ?aL ?_; (case aR => repeat (first | exact (Kd.C_below s.out HB.out) | (with_reducible refine Kd.C_alloc ?_ _) | (with_reducible refine Kd.C_drewN ?_ _) | (with_reducible refine Kd.C_drew ?_))); (case aB => exact (bn HB)); (case aF => exact (fun _ _ => trivial)); (case aO => exact (onR q)); (case aS => exact (below_size (bn HB))); (case aL => have := t.out; have h0_ : c.length = 0 := (by rw [p.out]; rfl); omega); intro E w5 ho hb hg B; rw [← x.out] at ho; replace HB := am hb; have D := am ho; clear q; clear ho hb hg B))
 go_ret
 exact ⟨_, er_, hua ▸ onR D, bn HB⟩
end Go.Proofs.Ytffflhmblelegaa.F
