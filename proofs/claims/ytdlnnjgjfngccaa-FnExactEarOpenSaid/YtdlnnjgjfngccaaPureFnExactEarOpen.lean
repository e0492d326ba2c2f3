/-
What the program's EarOpen computes is what the reference's computes, for every list of lists: the plain statement, without Go.
-/
import Derived.Test.YtdlnnjgjfngccaaThL
import Derived.Test.YtdlnnjgjfngccaaF6
namespace Go.Proofs.Ytdlnnjgjfngccaa.Pure
open Go.RowKit Go.Proofs.YtdlnnjgjfngccaaW.PrintWords Go.Proofs.YtdlnnjgjfngccaaW.PrintLast Go.Proofs.YtdlnnjgjfngccaaW.PrintMore Go.Proofs.Ytdlnnjgjfngccaa.F Go.Proofs.Ytdlnnjgjfngccaa.Th

theorem l22Open (l : List Int) (hl : l.length ≤ 1048576) : spec_l22Open.f l = some (decide (0 < l.length) && (rd l 0 != rd l ((l.length : Int) - 1))) := by
  unfold spec_l22Open.f
  by_cases h : (l.length : Int) > 0
  · rw [if_pos h, if_pos h, w64 (by omega), if_pos (by omega), if_pos (by omega)]
    simp [show 0 < l.length by omega]
  · rw [if_neg h]
    simp [show ¬ 0 < l.length by omega]

def earOpen (x : List (List Int)) : Nat → Nat → Bool
  | _, 0 => decide (0 < x.length)
  | i, d + 1 => if (decide (0 < (rd_L1 x i).length) && (rd (rd_L1 x i) 0 != rd (rd_L1 x i) (((rd_L1 x i).length : Int) - 1))) = true then earOpen x (i + 1) d else false

theorem spec_loop (x : List (List Int)) (hx : x.length ≤ 1048576) (hr : ∀ i : Nat, (rd_L1 x i).length ≤ 1048576) : ∀ (d i : Nat), i + d = x.length → Ev (fun k => spec_EarOpen.l0 k x i) (earOpen x i d)
  | 0, i, h => by
    refine Ev.succ ?_
    simp only [spec_EarOpen.l0]
    refine Ev.neg (by omega) ?_
    exact Ev.some_ (by simp only [earOpen]; exact decide_eq_decide.2 (by omega))
  | d + 1, i, h => by
    refine Ev.succ ?_
    simp only [spec_EarOpen.l0]
    refine Ev.pos (by omega) ?_
    refine Ev.pos (by omega) ?_
    refine Ev.bind0 (l22Open _ (hr i)) ?_
    simp only [earOpen]
    by_cases hc : (decide (0 < (rd_L1 x i).length) && (rd (rd_L1 x i) 0 != rd (rd_L1 x i) (((rd_L1 x i).length : Int) - 1))) = true
    · rw [if_pos hc]
      refine Ev.pos hc ?_
      rw [w64 (by omega)]
      exact spec_loop x hx hr d (i + 1) (by omega)
    · rw [if_neg hc]
      refine Ev.neg hc ?_
      exact Ev.now _

theorem impl_loop (x : List (List Int)) (hx : x.length ≤ 1048576) (hr : ∀ i : Nat, (rd_L1 x i).length ≤ 1048576) : ∀ (d i : Nat), 0 < i → i + d = x.length → Ev (fun k => impl_EarOpen.l0 k x x x.length i) (earOpen x i d)
  | 0, i, h0, h => by
    refine Ev.succ ?_
    simp only [impl_EarOpen.l0]
    refine Ev.neg (by omega) ?_
    exact Ev.some_ (by simp only [earOpen]; exact decide_eq_decide.2 (by omega))
  | d + 1, i, h0, h => by
    refine Ev.succ ?_
    simp only [impl_EarOpen.l0]
    have hri := hr i
    refine Ev.pos (by omega) ?_
    refine Ev.pos (by omega) ?_
    refine Ev.pos (by omega) ?_
    refine Ev.pos (by omega) ?_
    simp only [earOpen]
    by_cases h1 : ((rd_L1 x i).length : Int) = 0
    · refine Ev.pos h1 ?_
      exact Ev.some_ (by simp [show (rd_L1 x (i : Int)).length = 0 by omega])
    · refine Ev.neg h1 ?_
      refine Ev.pos (by omega) ?_
      rw [w64 (by omega)]
      refine Ev.pos (by omega) ?_
      refine Ev.pos (by omega) ?_
      by_cases h2 : rd (rd_L1 x i) 0 = rd (rd_L1 x i) (((rd_L1 x i).length : Int) - 1)
      · refine Ev.pos h2 ?_
        exact Ev.some_ (by simp [h2])
      · refine Ev.neg h2 ?_
        rw [if_pos (show (decide (0 < (rd_L1 x i).length) && (rd (rd_L1 x i) 0 != rd (rd_L1 x i) (((rd_L1 x i).length : Int) - 1))) = true by simp [h2, show 0 < (rd_L1 x (i : Int)).length by omega])]
        rw [w64 (by omega)]
        exact impl_loop x hx hr d (i + 1) (by omega) (by omega)

theorem spec_ear (x : List (List Int)) (hx : x.length ≤ 1048576) (hr : ∀ i : Nat, (rd_L1 x i).length ≤ 1048576) : ∃ b, Ev (fun k => spec_EarOpen.f k x) b ∧ Ev (fun k => impl_EarOpen.f k x) b := by
  refine ⟨earOpen x 1 (x.length - 1), ?_, ?_⟩
  · simp only [spec_EarOpen.f]
    by_cases h : x.length = 0
    · refine Ev.succ ?_
      simp only [spec_EarOpen.l0]
      refine Ev.neg (by omega) ?_
      exact Ev.some_ (by simp [earOpen, h])
    · exact spec_loop x hx hr _ 1 (by omega)
  · simp only [impl_EarOpen.f]
    refine Ev.succ ?_
    simp only [impl_EarOpen.l0]
    by_cases h : x.length = 0
    · refine Ev.neg (by omega) ?_
      exact Ev.some_ (by simp [earOpen, h])
    · refine Ev.pos (by omega) ?_
      refine Ev.pos (by omega) ?_
      refine Ev.pos (by omega) ?_
      refine Ev.neg (by omega) ?_
      rw [w64 (by omega)]
      exact impl_loop x hx hr _ 1 (by omega) (by omega)

theorem FnExactEarOpen : laws_FnExactEarOpen.Pure := by
  intro l hl
  refine Ev.rounds (g := fun k => laws_FnExactEarOpen.f k l) ?_
  simp only [laws_FnExactEarOpen.f]
  obtain ⟨s, hs, hs0⟩ := ev_szIntSS l hl
  refine Ev.bind hs ?_
  by_cases h0 : s < 0
  · exact Ev.pos h0 (Ev.now _)
  · refine Ev.neg h0 ?_
    obtain ⟨h1, h2⟩ := hs0 h0
    have h3 : ∀ i : Nat, (rd_L1 l i).length ≤ 1048576 := rd_L1_le h2
    obtain ⟨b, e1, e2⟩ := spec_ear l h1 h3
    refine Ev.bind (ev_toIntSS l h1 h2) (Ev.bind e1 (Ev.bind (ev_toIntSS l h1 h2) (Ev.bind e2 ?_)))
    refine Ev.neg (by intro h; simp at h) ?_
    refine Ev.bind (ev_toIntSS l h1 h2) (Ev.bind (ev_eqIntSS l h1 h2) ?_)
    exact Ev.pos rfl (Ev.now _)
end Go.Proofs.Ytdlnnjgjfngccaa.Pure
