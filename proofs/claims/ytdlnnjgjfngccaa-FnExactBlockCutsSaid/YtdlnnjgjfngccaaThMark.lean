/-
What the laws write into answers, to see that they own their memory.
-/
import Derived.Test.YtdlnnjgjfngccaaThU
import Derived.Test.YtdlnnjgjfngccaaTh1
import Derived.Test.YtdlnnjgjfngccaaF53
import Derived.Test.YtdlnnjgjfngccaaF64
namespace Go.Proofs.Ytdlnnjgjfngccaa.Th
open Go.RowKit Go.Proofs.YtdlnnjgjfngccaaW.PrintWords Go.Proofs.YtdlnnjgjfngccaaW.PrintLast Go.Proofs.YtdlnnjgjfngccaaW.PrintMore Go.Proofs.Ytdlnnjgjfngccaa.F

theorem ev_markTieS_loop : ∀ (d i : Nat) (l : List T) (a : Int), i + d = l.length → l.length ≤ 1048576 → 0 ≤ a ∧ a ≤ 4 * i + 4 → ∃ m out, Ev (fun k => laws_markTieS.l0 k l a i) (m, out) ∧ 0 ≤ m
  | 0, i, l, a, h, hl, ha => by
    refine ⟨a, l, Ev.succ ?_, ha.1⟩
    simp only [laws_markTieS.l0]
    exact Ev.neg (by omega) (Ev.now _)
  | d + 1, i, l, a, h, hl, ha => by
    obtain ⟨m, out, hm, h0⟩ := ev_markTieS_loop d (i + 1) ((l.set (i : Int).toNat (⟨a, (rd_T73 l i).f1⟩ : T)).set (i : Int).toNat (⟨(rd_T73 (l.set (i : Int).toNat (⟨a, (rd_T73 l i).f1⟩ : T)) i).f0, a + 1⟩ : T)) (a + 2) (by simp; omega) (by simpa using hl) (by omega)
    refine ⟨m, out, Ev.succ ?_, h0⟩
    simp only [laws_markTieS.l0]
    refine Ev.pos (by omega) (Ev.pos (by omega) (Ev.bind0 rfl ?_))
    rw [w64 (x := a + 1) (by omega), w64 (x := a + 1 + 1) (by omega), w64 (x := (i : Int) + 1) (by omega), show a + 1 + 1 = a + 2 by omega]
    exact hm
theorem ev_markNet (n : Int) (E : List T) (hE : E.length ≤ 1048576) : ∃ m out, Ev (fun k => laws_markNet.f k n E 1) (m, out) ∧ ¬ m < 0 := by
  obtain ⟨m, out, hm, h0⟩ := ev_markTieS_loop E.length 0 E 1 (by omega) hE (by omega)
  refine ⟨m, out, ?_, by omega⟩
  simp only [laws_markNet.f, laws_markTieS.f]
  exact Ev.bind hm (Ev.now _)
theorem ev_markIntS_loop : ∀ (d i : Nat) (l : List Int), i + d = l.length → l.length ≤ 1048576 → (∀ j : Int, 0 ≤ j → j < i → rd l j = 1 + j) → ∃ out, Ev (fun k => laws_markIntS.l0 k l (1 + i) i) (1 + l.length, out) ∧ out.length = l.length ∧ (∀ j : Int, 0 ≤ j → j < out.length → rd out j = 1 + j)
  | 0, i, l, h, hl, hp => by
    refine ⟨l, Ev.succ ?_, rfl, fun j h0 h1 => hp j h0 (by omega)⟩
    simp only [laws_markIntS.l0]
    exact Ev.neg (by omega) (Ev.some_ (by congr 1; omega))
  | d + 1, i, l, h, hl, hp => by
    obtain ⟨out, h1, h2, h3⟩ := ev_markIntS_loop d (i + 1) (l.set (i : Int).toNat (1 + i)) (by rw [List.length_set]; omega) (by rw [List.length_set]; omega) (fun j h0 h1 => by
      rw [rd_set _ _ _ _ (by omega) (by omega) h0]
      split
      · next e => rw [e]
      · exact hp j h0 (by omega))
    rw [List.length_set] at h1 h2
    refine ⟨out, Ev.succ ?_, h2, h3⟩
    simp only [laws_markIntS.l0]
    refine Ev.pos (by omega) (Ev.pos (by omega) ?_)
    rw [w64 (x := 1 + (i : Int) + 1) (by omega), w64 (x := (i : Int) + 1) (by omega), show 1 + (i : Int) + 1 = 1 + ((i + 1 : Nat) : Int) by omega]
    exact h1
theorem ev_heldIntS_loop (l : List Int) (hl : l.length ≤ 1048576) (hp : ∀ j : Int, 0 ≤ j → j < l.length → rd l j = 1 + j) : ∀ (d i : Nat), i + d = l.length → Ev (fun k => laws_heldIntS.l0 k l (1 + i) i) (1 + l.length)
  | 0, i, h => by
    refine Ev.succ ?_
    simp only [laws_heldIntS.l0]
    exact Ev.neg (by omega) (Ev.some_ (by omega))
  | d + 1, i, h => by
    refine Ev.succ ?_
    simp only [laws_heldIntS.l0]
    refine Ev.pos (by omega) (Ev.pos (by omega) (Ev.pos (hp i (by omega) (by omega)) ?_))
    rw [w64 (x := 1 + (i : Int) + 1) (by omega), w64 (x := (i : Int) + 1) (by omega), show 1 + (i : Int) + 1 = 1 + ((i + 1 : Nat) : Int) by omega]
    exact ev_heldIntS_loop l hl hp d (i + 1) (by omega)
theorem ev_markIntS (l : List Int) (hl : l.length ≤ 1048576) : ∃ out, Ev (fun k => laws_markIntS.f k l 1) (1 + l.length, out) ∧ Ev (fun k => laws_heldIntS.f k out 1) (1 + l.length) := by
  obtain ⟨out, h1, h2, h3⟩ := ev_markIntS_loop l.length 0 l (by omega) hl (by intro j h0 h1; omega)
  refine ⟨out, ?_, ?_⟩
  · simp only [laws_markIntS.f]
    exact h1
  · simp only [laws_heldIntS.f]
    have := ev_heldIntS_loop out (by omega) h3 out.length 0 (by omega)
    rw [h2] at this
    exact this
end Go.Proofs.Ytdlnnjgjfngccaa.Th
