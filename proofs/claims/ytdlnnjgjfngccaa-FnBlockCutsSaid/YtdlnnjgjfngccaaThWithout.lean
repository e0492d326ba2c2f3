/-
A net without the ties of a knot: the reference's and the program's.
-/
import Derived.Test.YtdlnnjgjfngccaaThG
import Derived.Test.YtdlnnjgjfngccaaF29
namespace Go.Proofs.Ytdlnnjgjfngccaa.Th
open Go.RowKit Go.Proofs.YtdlnnjgjfngccaaW.PrintWords Go.Proofs.YtdlnnjgjfngccaaW.PrintLast Go.Proofs.YtdlnnjgjfngccaaW.PrintMore Go.Proofs.Ytdlnnjgjfngccaa.F

/-- The ties that a knot does not have. -/
noncomputable abbrev lessK (E : List T) (k : Int) : List T := less E (AtK k)
theorem less_cons_pos {t : T} {E : List T} {p : T → Prop} (h : p t) : less (t :: E) p = less E p := by
  unfold less
  rw [List.filter_cons_of_neg (p := fun t => !dec (p t)) (by rw [dec_t h]; simp)]
theorem less_cons_neg {t : T} {E : List T} {p : T → Prop} (h : ¬ p t) : less (t :: E) p = t :: less E p := by
  unfold less
  rw [List.filter_cons_of_pos (p := fun t => !dec (p t)) (by rw [dec_f h]; rfl)]
theorem less_length_le (E : List T) (p : T → Prop) : (less E p).length ≤ E.length := List.length_filter_le _ _
theorem ev_spec_without_loop (n : Int) (E : List T) (v : Int) (hE : E.length ≤ 1048576) : ∀ (d i : Nat) (out : List T), i + d = E.length → out.length ≤ i →
    Ev (fun k => spec_NetWithout.l0 k v i n E n out) (n, out ++ lessK (E.drop i) v)
  | 0, i, out, h, _ => by
    refine Ev.succ ?_
    simp only [spec_NetWithout.l0]
    refine Ev.neg (by omega) (Ev.some_ ?_)
    rw [List.drop_of_length_le (by omega)]
    simp [less]
  | d + 1, i, out, h, hl => by
    have hi : i < E.length := by omega
    refine Ev.succ ?_
    simp only [spec_NetWithout.l0, rd_T_nat E i hi]
    refine Ev.pos (by omega) (Ev.pos (by omega) ?_)
    rw [List.drop_eq_getElem_cons hi, w64 (by omega)]
    by_cases h0 : E[i].f0 = v
    · rw [lessK, less_cons_pos (Or.inl h0)]
      exact Ev.pos h0 (ev_spec_without_loop n E v hE d (i + 1) out (by omega) (by omega))
    · refine Ev.neg h0 ?_
      by_cases h1 : E[i].f1 = v
      · rw [lessK, less_cons_pos (Or.inr h1)]
        exact Ev.pos h1 (ev_spec_without_loop n E v hE d (i + 1) out (by omega) (by omega))
      · rw [lessK, less_cons_neg (not_or.2 ⟨h0, h1⟩)]
        refine Ev.neg h1 (Ev.pos (by omega) ?_)
        refine Ev.cast (ev_spec_without_loop n E v hE d (i + 1) (out ++ [E[i]]) (by omega) (by simp only [List.length_append, List.length_singleton]; omega)) ?_
        simp
theorem ev_spec_NetWithout {n : Int} {E : List T} {v : Int} (h : OK n E) (hv : In n v) : Ev (fun k => spec_NetWithout.f k n E v) (n, lessK E v) := by
  have := h.length
  simp only [spec_NetWithout.f]
  refine Ev.bind (ev_l1Knot n E v (by omega) h.wf) (Ev.pos (dec_t ⟨h, hv⟩) ?_)
  exact ev_spec_without_loop n E v (by omega) E.length 0 [] (by omega) (by simp)
theorem ev_without_loop (n : Int) (E : List T) (v : Int) (hE : E.length ≤ 1048576) : ∀ (d i : Nat) (out : List T), i + d = E.length → out.length ≤ i →
    Ev (fun k => impl_Net_without.l0 k v E E.length i n out) (n, out ++ lessK (E.drop i) v)
  | 0, i, out, h, _ => by
    refine Ev.succ ?_
    simp only [impl_Net_without.l0]
    refine Ev.neg (by omega) (Ev.some_ ?_)
    rw [List.drop_of_length_le (by omega)]
    simp [less]
  | d + 1, i, out, h, hl => by
    have hi : i < E.length := by omega
    refine Ev.succ ?_
    simp only [impl_Net_without.l0, rd_T_nat E i hi]
    refine Ev.pos (by omega) (Ev.pos (by omega) (Ev.pos (by omega) ?_))
    rw [List.drop_eq_getElem_cons hi, w64 (by omega)]
    by_cases h0 : E[i].f0 = v
    · rw [lessK, less_cons_pos (Or.inl h0)]
      exact Ev.pos h0 (ev_without_loop n E v hE d (i + 1) out (by omega) (by omega))
    · refine Ev.neg h0 ?_
      by_cases h1 : E[i].f1 = v
      · rw [lessK, less_cons_pos (Or.inr h1)]
        exact Ev.pos h1 (ev_without_loop n E v hE d (i + 1) out (by omega) (by omega))
      · rw [lessK, less_cons_neg (not_or.2 ⟨h0, h1⟩)]
        refine Ev.neg h1 (Ev.pos (by omega) ?_)
        refine Ev.cast (ev_without_loop n E v hE d (i + 1) (out ++ [E[i]]) (by omega) (by simp only [List.length_append, List.length_singleton]; omega)) ?_
        simp
theorem ev_without {n : Int} {E : List T} {v : Int} (h : OK n E) : Ev (fun k => impl_Net_without.f k n E v) (n, lessK E v) := by
  have := h.length
  simp only [impl_Net_without.f]
  exact ev_without_loop n E v (by omega) E.length 0 [] (by omega) (by simp)
end Go.Proofs.Ytdlnnjgjfngccaa.Th
