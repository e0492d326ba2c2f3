/-
The program's BlockCuts answers what the reference's answers, for all arguments: the plain statement, without Go.
-/
import Derived.Test.YtdlnnjgjfngccaaThBlockCuts
import Derived.Test.YtdlnnjgjfngccaaThLT
import Derived.Test.YtdlnnjgjfngccaaThL
import Derived.Test.YtdlnnjgjfngccaaThMark
import Derived.Test.YtdlnnjgjfngccaaF65
namespace Go.Proofs.Ytdlnnjgjfngccaa.Pure
open Go.RowKit Go.Proofs.YtdlnnjgjfngccaaW.PrintWords Go.Proofs.YtdlnnjgjfngccaaW.PrintMore Go.Proofs.Ytdlnnjgjfngccaa.F Go.Proofs.Ytdlnnjgjfngccaa.Th

theorem FnExactBlockCuts : laws_FnExactBlockCuts.Pure := by
  intro n l hn hl
  refine Ev.rounds (g := fun k => laws_FnExactBlockCuts.f k n l) ?_
  simp only [laws_FnExactBlockCuts.f]
  refine Ev.bind0 (szNet n l hl.1) ?_
  by_cases h3 : (l.length : Int) ≤ 1048576
  · rw [if_pos h3]
    have c := conv_length l
    have w := conv_wf l hl
    have hb := blockCuts_length n (conv l)
    refine Ev.neg (by omega) (Ev.bind (ev_toNet n l (by omega)) (Ev.bind (ev_spec_BlockCuts n (conv l) (by omega) w) (Ev.bind (ev_toNet n l (by omega)) (Ev.bind (ev_impl_BlockCuts n (conv l) (by omega)) ?_))))
    refine Ev.bind (ev_eqIntS _ (by omega)) (Ev.pos rfl ?_)
    refine Ev.bind (ev_toNet n l (by omega)) (Ev.bind (ev_eqNet n (conv l) (by omega)) (Ev.pos (by first | rfl | trivial) ?_))
    obtain ⟨m, out, hm, h0⟩ := ev_markNet n (conv l) (by omega)
    refine Ev.bind hm (Ev.neg h0 (Ev.bind (ev_eqIntS _ (by omega)) ?_))
    refine Ev.succ ?_
    simp only [laws_FnExactBlockCuts.j0]
    obtain ⟨out', h1, h2⟩ := ev_markIntS (blockCuts n (conv l)) (by omega)
    refine Ev.neg (by simp) (Ev.bind h1 (Ev.bind h2 (Ev.neg (by omega) (Ev.pos rfl ?_))))
    refine Ev.bind (ev_toNet n l (by omega)) (Ev.bind (ev_impl_BlockCuts n (conv l) (by omega)) (Ev.bind (ev_eqIntS _ (by omega)) (Ev.pos rfl ?_)))
    exact Ev.bind h2 (Ev.neg (by omega) (Ev.pos rfl (Ev.now _)))
  · rw [if_neg h3]
    exact Ev.pos (by omega) (Ev.now _)
end Go.Proofs.Ytdlnnjgjfngccaa.Pure
