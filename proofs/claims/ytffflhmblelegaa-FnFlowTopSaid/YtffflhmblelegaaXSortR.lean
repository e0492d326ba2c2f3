/-
slices.SortFunc by wayOrder, at rows of numbers that lie apart: shorter ones first, then by their numbers.
-/
import Derived.Shelf.SlSortCmp.Whole1
import Derived.Shelf.SlSortCmp.Whole1
import Derived.Test.YtffflhmblelegaaF0
import Derived.Test.YtffflhmblelegaaF4
import Derived.Test.YtffflhmblelegaaProg
import Derived.Test.YtffflhmblelegaaXCmp
namespace Go.Proofs.Ytffflhmblelegaa.F
open Go.RowKit Go.Proofs.YtffflhmblelegaaW.PrintWords Go.Proofs.YtffflhmblelegaaW.PrintLast Go.Proofs.YtffflhmblelegaaW.PrintMore
open Go.Sort (SWO)
def cmpL : List Int → List Int → Int
  | [], [] => 0
  | [], _ :: _ => -1
  | _ :: _, [] => 1
  | a :: l, b :: m => if cmpI a b = 0 then cmpL l m else cmpI a b
def ordW (x y : List Int) : Int := if cmpI (x.length : Int) (y.length : Int) = 0 then cmpL x y else cmpI (x.length : Int) (y.length : Int)
/-- Ahead of one another: by their numbers. -/
def ltL : List Int → List Int → Prop
  | _, [] => False
  | [], _ :: _ => True
  | a :: l, b :: m => a < b ∨ a = b ∧ ltL l m
theorem cmpL_iff : ∀ x y : List Int, cmpL x y < 0 ↔ ltL x y
  | [], [] => by simp [cmpL, ltL]
  | [], _ :: _ => by simp [cmpL, ltL]
  | _ :: _, [] => by simp [cmpL, ltL]
  | a :: l, b :: m => by
    have ih := cmpL_iff l m
    unfold cmpL cmpI ltL
    by_cases h1 : a < b
    · simp [h1]
    · by_cases h2 : b < a
      · simp [h1, h2]; omega
      · obtain rfl : a = b := by omega
        simp [ih]
theorem ltL_irrefl : ∀ x : List Int, ¬ ltL x x
  | [] => by simp [ltL]
  | a :: l => by unfold ltL; have := ltL_irrefl l; rintro (h | h); omega; exact this h.2
theorem ltL_trans : ∀ {x y z : List Int}, ltL x y → ltL y z → ltL x z
  | _, [], _, h, _ => by simp [ltL] at h
  | _, _ :: _, [], _, k => by simp [ltL] at k
  | [], _ :: _, _ :: _, _, _ => by simp [ltL]
  | a :: l, b :: m, c :: n, h, k => by
    unfold ltL at h k ⊢
    rcases h with h | ⟨h, h'⟩
    · rcases k with k | ⟨k, _⟩
      · exact Or.inl (by omega)
      · exact Or.inl (by omega)
    · rcases k with k | ⟨k, k'⟩
      · exact Or.inl (by omega)
      · exact Or.inr ⟨by omega, ltL_trans h' k'⟩
theorem ltL_tri : ∀ x y : List Int, ltL x y ∨ x = y ∨ ltL y x
  | [], [] => Or.inr (Or.inl rfl)
  | [], _ :: _ => Or.inl (by simp [ltL])
  | _ :: _, [] => Or.inr (Or.inr (by simp [ltL]))
  | a :: l, b :: m => by
    have ih := ltL_tri l m
    unfold ltL
    rcases Int.lt_trichotomy a b with h | h | h
    · exact Or.inl (Or.inl h)
    · subst h
      rcases ih with k | k | k
      · exact Or.inl (Or.inr ⟨rfl, k⟩)
      · exact Or.inr (Or.inl (by rw [k]))
      · exact Or.inr (Or.inr (Or.inr ⟨rfl, k⟩))
    · exact Or.inr (Or.inr (Or.inl h))
/-- Ahead of one another: the shorter one, then by their numbers. -/
def ltW (x y : List Int) : Prop := x.length < y.length ∨ x.length = y.length ∧ ltL x y
theorem ordW_iff (x y : List Int) : ordW x y < 0 ↔ ltW x y := by
  have := cmpL_iff x y
  unfold ordW cmpI ltW
  by_cases h1 : (x.length : Int) < (y.length : Int)
  · simp [h1]; omega
  · by_cases h2 : (y.length : Int) < (x.length : Int)
    · simp [h1, h2]; omega
    · have e : x.length = y.length := by omega
      simp only [h1, h2, if_false, if_true]
      rw [this]
      exact ⟨fun k => Or.inr ⟨e, k⟩, fun k => k.elim (fun k => absurd k (by omega)) (fun k => k.2)⟩
theorem ltW_irrefl (x : List Int) : ¬ ltW x x := by unfold ltW; have := ltL_irrefl x; rintro (h | h); omega; exact this h.2
theorem ltW_trans {x y z : List Int} (h : ltW x y) (k : ltW y z) : ltW x z := by
  unfold ltW at *
  rcases h with h | ⟨h, h'⟩
  · rcases k with k | ⟨k, _⟩
    · exact Or.inl (by omega)
    · exact Or.inl (by omega)
  · rcases k with k | ⟨k, k'⟩
    · exact Or.inl (by omega)
    · exact Or.inr ⟨by omega, ltL_trans h' k'⟩
theorem ltW_tri (x y : List Int) : ltW x y ∨ x = y ∨ ltW y x := by
  unfold ltW
  rcases Nat.lt_trichotomy x.length y.length with h | h | h
  · exact Or.inl (Or.inl h)
  · rcases ltL_tri x y with k | k | k
    · exact Or.inl (Or.inr ⟨h, k⟩)
    · exact Or.inr (Or.inl k)
    · exact Or.inr (Or.inr (Or.inr ⟨h.symm, k⟩))
  · exact Or.inr (Or.inr (Or.inl h))
theorem ltW_nle {x y z : List Int} (h : ¬ ltW x y) (k : ¬ ltW y z) : ¬ ltW x z := fun m => by
  rcases ltW_tri x y with a | a | a
  · exact h a
  · subst a; exact k m
  · exact k (ltW_trans a m)
def putW (t : List Int) : List (List Int) → List (List Int)
  | [] => [t]
  | x :: l => if ordW t x < 0 then t :: x :: l else x :: putW t l
def sortW : List (List Int) → List (List Int)
  | [] => []
  | x :: l => putW x (sortW l)
theorem putW_perm (t : List Int) : ∀ l, (putW t l).Perm (t :: l)
  | [] => List.Perm.refl _
  | x :: l => by
    unfold putW
    split
    · exact List.Perm.refl _
    · exact ((putW_perm t l).cons x).trans (List.Perm.swap t x l)
theorem sortW_perm : ∀ l, (sortW l).Perm l
  | [] => List.Perm.refl _
  | x :: l => (putW_perm x _).trans ((sortW_perm l).cons x)
theorem putW_sorted (t : List Int) : ∀ l, l.Pairwise (fun a b => ¬ ltW b a) → (putW t l).Pairwise (fun a b => ¬ ltW b a)
  | [], _ => by simp [putW]
  | x :: l, h => by
    obtain ⟨h1, h2⟩ := List.pairwise_cons.1 h
    unfold putW
    split
    · rename_i hc
      rw [ordW_iff] at hc
      have hxt : ¬ ltW x t := fun k => ltW_irrefl _ (ltW_trans hc k)
      refine List.pairwise_cons.2 ⟨fun b hb => ?_, h⟩
      rcases List.mem_cons.1 hb with rfl | hb
      · exact hxt
      · exact ltW_nle (h1 b hb) hxt
    · rename_i hc
      rw [ordW_iff] at hc
      refine List.pairwise_cons.2 ⟨fun b hb => ?_, putW_sorted t l h2⟩
      rcases List.mem_cons.1 ((putW_perm t l).subset hb) with rfl | hb
      · exact hc
      · exact h1 b hb
theorem sortW_sorted : ∀ l, (sortW l).Pairwise (fun a b => ¬ ltW b a)
  | [] => List.Pairwise.nil
  | x :: l => putW_sorted x _ (sortW_sorted l)
theorem sortedW_unique : ∀ {l m : List (List Int)}, l.Perm m → l.Pairwise (fun a b => ¬ ltW b a) → m.Pairwise (fun a b => ¬ ltW b a) → l = m
  | [], m, hp, _, _ => (List.nil_perm.1 hp).symm
  | x :: l, [], hp, _, _ => absurd hp.length_eq (by simp)
  | x :: l, y :: m, hp, hl, hm => by
    obtain ⟨h1, h2⟩ := List.pairwise_cons.1 hl
    obtain ⟨k1, k2⟩ := List.pairwise_cons.1 hm
    have hxy : x = y := by
      rcases List.mem_cons.1 (hp.subset (List.mem_cons_self : x ∈ x :: l)) with e | e
      · exact e
      · rcases List.mem_cons.1 (hp.symm.subset (List.mem_cons_self : y ∈ y :: m)) with e' | e'
        · exact e'.symm
        · rcases ltW_tri x y with a | a | a
          · exact absurd a (k1 x e)
          · exact a
          · exact absurd a (h1 y e')
    subst hxy
    rw [sortedW_unique (List.perm_cons x |>.1 hp) h2 k2]
end Go.Proofs.Ytffflhmblelegaa.F
