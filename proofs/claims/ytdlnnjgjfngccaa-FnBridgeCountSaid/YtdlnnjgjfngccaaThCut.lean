/-
The reference's NetCut.
-/
import Derived.Test.YtdlnnjgjfngccaaThG
import Derived.Test.YtdlnnjgjfngccaaF35
namespace Go.Proofs.Ytdlnnjgjfngccaa.Th
open Go.RowKit Go.Proofs.YtdlnnjgjfngccaaW.PrintWords Go.Proofs.YtdlnnjgjfngccaaW.PrintLast Go.Proofs.YtdlnnjgjfngccaaW.PrintMore Go.Proofs.Ytdlnnjgjfngccaa.F

theorem ev_spec_NetCut_loop (n : Int) (E : List T) (a b : Int) (hE : E.length ≤ 1048576) : ∀ (d i : Nat) (out : List T), i + d = E.length → out.length ≤ i →
    Ev (fun k => spec_NetCut.l0 k a b i n E n out) (n, out ++ less (E.drop i) (· = tie a b), true)
  | 0, i, out, h, _ => by
    refine Ev.succ ?_
    simp only [spec_NetCut.l0]
    refine Ev.neg (by omega) (Ev.some_ ?_)
    rw [List.drop_of_length_le (by omega)]
    simp [less]
  | d + 1, i, out, h, hl => by
    have hi : i < E.length := by omega
    refine Ev.succ ?_
    simp only [spec_NetCut.l0, rd_T_nat E i hi]
    refine Ev.pos (by omega) (Ev.pos (by omega) (Ev.bind0 (l1Tie a b) ?_))
    rw [List.drop_eq_getElem_cons hi, w64 (by omega)]
    by_cases h0 : E[i] = tie a b
    · rw [less_cons_pos (p := fun x => x = tie a b) h0]
      exact Ev.neg (by rw [h0]; simp) (ev_spec_NetCut_loop n E a b hE d (i + 1) out (by omega) (by omega))
    · rw [less_cons_neg (p := fun x => x = tie a b) h0]
      refine Ev.pos ?_ (Ev.pos (by omega) ?_)
      · rw [← Bool.not_and, Bool.not_eq_true', ← Bool.not_eq_true]
        intro k
        simp only [Bool.and_eq_true, beq_iff_eq] at k
        exact h0 (T.ext k.1 k.2)
      · refine Ev.cast (ev_spec_NetCut_loop n E a b hE d (i + 1) (out ++ [E[i]]) (by omega) (by simp only [List.length_append, List.length_singleton]; omega)) ?_
        simp
theorem ev_spec_NetCut {n : Int} {E : List T} {a b : Int} (h : OK n E) (hh : Has E a b) : Ev (fun k => spec_NetCut.f k n E a b) (n, less E (· = tie a b), true) := by
  have := h.length
  simp only [spec_NetCut.f]
  refine Ev.bind (ev_spec_NetHas n E a b (by omega) h.wf) (Ev.pos (dec_t ⟨h, hh⟩) ?_)
  exact ev_spec_NetCut_loop n E a b (by omega) E.length 0 [] (by omega) (by simp)
theorem ev_spec_NetCut_not {n : Int} {E : List T} {a b : Int} (hE : E.length ≤ 1048576) (hw : WF E) (hh : ¬ (OK n E ∧ Has E a b)) : Ev (fun k => spec_NetCut.f k n E a b) (0, [], false) := by
  simp only [spec_NetCut.f]
  exact Ev.bind (ev_spec_NetHas n E a b hE hw) (Ev.neg (by rw [dec_f hh]; simp) (Ev.now _))
end Go.Proofs.Ytdlnnjgjfngccaa.Th
