/-
The program's TwoOk answers what the reference's answers, for all arguments: the plain statement, without Go.
-/
import Derived.Test.YtdlnnjgjfngccaaTh2
import Derived.Test.YtdlnnjgjfngccaaThL
import Derived.Test.YtdlnnjgjfngccaaThLT
import Derived.Test.YtdlnnjgjfngccaaF27
namespace Go.Proofs.Ytdlnnjgjfngccaa.Pure
open Go.RowKit Go.Proofs.YtdlnnjgjfngccaaW.PrintWords Go.Proofs.YtdlnnjgjfngccaaW.PrintMore Go.Proofs.Ytdlnnjgjfngccaa.F Go.Proofs.Ytdlnnjgjfngccaa.Th

theorem FnExactTwoOk : laws_FnExactTwoOk.Pure := by
  intro n l a b x y hn hl ha hb hx hy
  refine Ev.rounds (g := fun k => laws_FnExactTwoOk.f k n l a b x y) ?_
  simp only [laws_FnExactTwoOk.f]
  by_cases h1 : (x.length : Int) > 1048576
  · exact Ev.pos h1 (Ev.now _)
  refine Ev.neg h1 ?_
  by_cases h2 : (y.length : Int) > 1048576
  · exact Ev.pos h2 (Ev.now _)
  refine Ev.neg h2 (Ev.bind0 (szNet n l hl.1) ?_)
  by_cases h3 : (l.length : Int) ≤ 1048576
  · rw [if_pos h3]
    have c := conv_length l
    have w := conv_wf l hl
    refine Ev.neg (by omega) (Ev.bind (ev_toNet n l (by omega)) (Ev.bind (ev_toIntS x (by omega)) (Ev.bind (ev_toIntS y (by omega)) ?_)))
    refine Ev.bind (ev_spec_TwoOk n (conv l) a b x y (by omega) w (by omega) (by omega)) (Ev.bind (ev_toNet n l (by omega)) (Ev.bind (ev_toIntS x (by omega)) (Ev.bind (ev_toIntS y (by omega)) ?_)))
    refine Ev.bind (ev_impl_TwoOk n (conv l) a b x y (by omega) (by omega) (by omega)) (Ev.neg (by simp) ?_)
    refine Ev.bind (ev_toNet n l (by omega)) (Ev.bind (ev_eqNet n (conv l) (by omega)) (Ev.pos (by first | rfl | trivial) ?_))
    refine Ev.bind (ev_toIntS x (by omega)) (Ev.bind (ev_eqIntS x (by omega)) (Ev.pos (by first | rfl | trivial) ?_))
    exact Ev.bind (ev_toIntS y (by omega)) (Ev.bind (ev_eqIntS y (by omega)) (Ev.pos (by first | rfl | trivial) (Ev.now _)))
  · rw [if_neg h3]
    exact Ev.pos (by omega) (Ev.now _)
end Go.Proofs.Ytdlnnjgjfngccaa.Pure
