/-
A net without some ties: the program's 'less'.
-/
import Derived.Test.YtdlnnjgjfngccaaThG
import Derived.Test.YtdlnnjgjfngccaaThContains
import Derived.Test.YtdlnnjgjfngccaaF38
namespace Go.Proofs.Ytdlnnjgjfngccaa.Th
open Go.RowKit Go.Proofs.YtdlnnjgjfngccaaW.PrintWords Go.Proofs.YtdlnnjgjfngccaaW.PrintLast Go.Proofs.YtdlnnjgjfngccaaW.PrintMore Go.Proofs.Ytdlnnjgjfngccaa.F

theorem ev_less_loop (n : Int) (E gone : List T) (hE : E.length ≤ 1048576) (hg : gone.length ≤ 1048576) : ∀ (d i : Nat) (out : List T), i + d = E.length → out.length ≤ i →
    Ev (fun k => impl_Net_less.l0 k gone E E.length i n out) (n, out ++ less (E.drop i) (· ∈ gone))
  | 0, i, out, h, _ => by
    refine Ev.succ ?_
    simp only [impl_Net_less.l0]
    refine Ev.neg (by omega) (Ev.some_ ?_)
    rw [List.drop_of_length_le (by omega)]
    simp [less]
  | d + 1, i, out, h, hl => by
    have hi : i < E.length := by omega
    refine Ev.succ ?_
    simp only [impl_Net_less.l0, rd_T_nat E i hi]
    refine Ev.pos (by omega) (Ev.pos (by omega) (Ev.pos (by omega) (Ev.bind (ev_contains gone E[i] hg) ?_)))
    rw [List.drop_eq_getElem_cons hi, w64 (by omega)]
    by_cases h0 : E[i] ∈ gone
    · rw [less_cons_pos h0]
      exact Ev.pos (dec_t h0) (ev_less_loop n E gone hE hg d (i + 1) out (by omega) (by omega))
    · rw [less_cons_neg h0]
      refine Ev.neg (by rw [dec_f h0]; simp) (Ev.pos (by omega) ?_)
      refine Ev.cast (ev_less_loop n E gone hE hg d (i + 1) (out ++ [E[i]]) (by omega) (by simp only [List.length_append, List.length_singleton]; omega)) ?_
      simp
theorem ev_less (n : Int) (E gone : List T) (hE : E.length ≤ 1048576) (hg : gone.length ≤ 1048576) : Ev (fun k => impl_Net_less.f k n E gone) (n, less E (· ∈ gone)) := by
  simp only [impl_Net_less.f]
  exact ev_less_loop n E gone hE hg E.length 0 [] (by omega) (by simp)
theorem less_one (E : List T) (t : T) : less E (· ∈ [t]) = less E (· = t) := less_congr (fun s _ => by simp)

end Go.Proofs.Ytdlnnjgjfngccaa.Th
