/-
slices.SortFunc by tieOrder, at a row of ties of the call's own: the ties in order.
-/
import Derived.Test.YtffflhmblelegaaXSort
import Derived.Test.YtffflhmblelegaaXTieOrder
import Derived.Test.YtffflhmblelegaaXCmp
import Derived.Test.YtffflhmblelegaaXLayT
namespace Go.Proofs.Ytffflhmblelegaa.F
open Go.RowKit Go.Proofs.YtffflhmblelegaaW.PrintWords Go.Proofs.YtffflhmblelegaaW.PrintLast Go.Proofs.YtffflhmblelegaaW.PrintMore
open Go.Sort (SWO)
def ordT (s t : S52) : Int := if cmpI s.f0 t.f0 = 0 then cmpI s.f1 t.f1 else cmpI s.f0 t.f0
theorem tieOrder_eq (s t : S52) : impl_tieOrder.f 4 s.f0 s.f1 t.f0 t.f1 = some (ordT s t) := by
  unfold impl_tieOrder.f
  rw [cmp_eq, cmp_eq, Option.bind_some, Option.bind_some, or_eq 0]
  rfl
/-- Ahead of one another. -/
def ltT (s t : S52) : Prop := s.f0 < t.f0 ∨ s.f0 = t.f0 ∧ s.f1 < t.f1
theorem ordT_iff (s t : S52) : ordT s t < 0 ↔ ltT s t := by
  unfold ordT cmpI ltT
  repeat' split
  all_goals omega
theorem swoT : SWO (Go.Proofs.ltOf ordT) where
  irrefl x := by unfold Go.Proofs.ltOf; rw [decide_eq_false_iff_not, ordT_iff]; unfold ltT; omega
  trans x y u := by unfold Go.Proofs.ltOf; simp only [decide_eq_true_eq, ordT_iff]; unfold ltT; omega
  ntrans x y u := by unfold Go.Proofs.ltOf; simp only [decide_eq_false_iff_not, ordT_iff]; unfold ltT; omega
/-- Put in its place. -/
def putT (t : S52) : List (S52) → List (S52)
  | [] => [t]
  | x :: l => if t.f0 < x.f0 ∨ t.f0 = x.f0 ∧ t.f1 < x.f1 then t :: x :: l else x :: putT t l
def sortT : List (S52) → List (S52)
  | [] => []
  | x :: l => putT x (sortT l)
theorem putT_perm (t : S52) : ∀ l, (putT t l).Perm (t :: l)
  | [] => List.Perm.refl _
  | x :: l => by
    unfold putT
    split
    · exact List.Perm.refl _
    · exact ((putT_perm t l).cons x).trans (List.Perm.swap t x l)
theorem sortT_perm : ∀ l, (sortT l).Perm l
  | [] => List.Perm.refl _
  | x :: l => (putT_perm x _).trans ((sortT_perm l).cons x)
theorem putT_sorted (t : S52) : ∀ l, l.Pairwise (fun a b => ¬ ltT b a) → (putT t l).Pairwise (fun a b => ¬ ltT b a)
  | [], _ => by simp [putT]
  | x :: l, h => by
    obtain ⟨h1, h2⟩ := List.pairwise_cons.1 h
    unfold putT
    split
    · rename_i hc
      refine List.pairwise_cons.2 ⟨fun b hb => ?_, h⟩
      rcases List.mem_cons.1 hb with rfl | hb
      · unfold ltT; omega
      · have := h1 b hb
        unfold ltT at *; omega
    · rename_i hc
      refine List.pairwise_cons.2 ⟨fun b hb => ?_, putT_sorted t l h2⟩
      rcases List.mem_cons.1 ((putT_perm t l).subset hb) with rfl | hb
      · exact hc
      · exact h1 b hb
theorem sortT_sorted : ∀ l, (sortT l).Pairwise (fun a b => ¬ ltT b a)
  | [] => List.Pairwise.nil
  | x :: l => putT_sorted x _ (sortT_sorted l)
theorem sorted_unique : ∀ {l m : List (S52)}, l.Perm m → l.Pairwise (fun a b => ¬ ltT b a) → m.Pairwise (fun a b => ¬ ltT b a) → l = m
  | [], m, hp, _, _ => (List.nil_perm.1 hp).symm
  | x :: l, [], hp, _, _ => absurd hp.length_eq (by simp)
  | x :: l, y :: m, hp, hl, hm => by
    obtain ⟨h1, h2⟩ := List.pairwise_cons.1 hl
    obtain ⟨k1, k2⟩ := List.pairwise_cons.1 hm
    have hxy : x = y := by
      rcases List.mem_cons.1 (hp.subset (List.mem_cons_self : x ∈ x :: l)) with e | e
      · exact e
      · rcases List.mem_cons.1 (hp.symm.subset (List.mem_cons_self : y ∈ y :: m)) with e' | e'
        · exact e'.symm
        · have a1 := h1 y e'
          have a2 := k1 x e
          have b0 : x.f0 = y.f0 ∧ x.f1 = y.f1 := by unfold ltT at a1 a2; omega
          cases x; cases y; simp at b0; simp [b0]
    subst hxy
    rw [sorted_unique (List.perm_cons x |>.1 hp) h2 k2]
theorem sort_ties {e g n cap base : Nat} {ok : Nat → Prop} {W : World} {xs : List (S52)} (h : k52.R e W base ok (.slice (some ⟨g, 0, none⟩) n cap) xs) (hn : 0 < n) (hm : n < 4611686018427387904) :
    Calls Try.prog 82 #[.slice (some ⟨g, 0, none⟩) n cap, .func (.func 83) #[] #[]] W fun e' w' => e' = .returned (.tuple #[]) ∧ k52.R e w' base ok (.slice (some ⟨g, 0, none⟩) n cap) (sortT xs) ∧ KeepBut W w' g none ∧ w'.os = W.os ∧ w'.tape = W.tape ∧ w'.output = W.output := by
  have hcon := sort_row layT (⟨0, 0⟩ : S52) (d := k52) (fun w => by kernel_rfl) (fun w => by kernel_rfl) ordT swoT 83
    (fun args w => Go.Proofs.enters_of Try.func83 (by kernel_rfl) rfl args w)
    (fun x y cx cy w0 hx hy W' => by
      obtain rfl := k52_open hx
      obtain rfl := k52_open hy
      exact (tieOrder_gr 4 x.f0 x.f1 y.f0 y.f1 _ W' (tieOrder_eq x y)).mono (fun e w' k => ⟨k.1, k.2.out⟩)) h hn hm
  refine Calls.mono (show Calls Try.prog 82 _ _ _ from hcon) ?_
  rintro e' w' ⟨h1, ys, hp, hs, hR, hk, h2, h3, h4⟩
  have hys : ys = sortT xs := sorted_unique (hp.trans (sortT_perm xs).symm) (hs.imp (fun hab hc => hab ((ordT_iff _ _).2 hc))) (sortT_sorted xs)
  subst hys
  exact ⟨h1, hR, hk, h2, h3, h4⟩
/-- The sort, as a walk meets it. -/
theorem so_ {w W W0 W00 : World} {e base c : Nat} {ok : Nat → Prop} {A : Option Addr} {xs : List (S52)} (_R : Aside0 (k52.R e W0 base ok (.slice A xs.length c) xs)) [hR : Aside0 (k52.R e W base ok (.slice A xs.length c) xs)]
    (_B : Aside0 (Below w.heap.size w W00)) [hB : Aside0 (Below w.heap.size w W)] (hb : base = w.heap.size) (hn : 0 < xs.length) (hm : xs.length < 4611686018427387904) :
    Calls Try.prog 82 #[.slice A xs.length c, .func (.func 83) #[] #[]] W fun e' w' => e' = .returned (.tuple #[]) ∧ ∃ g, A = some ⟨g, 0, none⟩ ∧ Aside0 (k52.R e w' base ok (.slice A xs.length c) (sortT xs)) ∧ KeepBut W w' g none ∧ Aside0 (Below w.heap.size w w') := by
  obtain ⟨g, cap, hv, hg, hlt, _⟩ := Kd.R_form hR.out hn
  injection hv with h1 h2 h3
  subst h1
  refine (sort_ties hR.out hn hm).mono ?_
  rintro e' w' ⟨h4, h5, h6, h7, h8, h9⟩
  refine ⟨h4, g, rfl, ⟨h5⟩, h6, ⟨⟨h7.trans hB.out.os, h8.trans hB.out.tape, h9.trans hB.out.output, Nat.le_trans hB.out.size h6.1, fun k hk => ?_⟩⟩⟩
  have h10 := hB.out.size
  exact (h6.2 k (by omega) (by omega) (by simp)).trans (hB.out.block k hk)
end Go.Proofs.Ytffflhmblelegaa.F
