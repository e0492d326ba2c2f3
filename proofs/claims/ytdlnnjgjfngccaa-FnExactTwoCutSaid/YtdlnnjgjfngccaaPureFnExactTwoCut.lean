/-
The program's TwoCut answers what the reference's answers, for all arguments: the plain statement, without Go.
-/
import Derived.Test.YtdlnnjgjfngccaaThTwoCut
import Derived.Test.YtdlnnjgjfngccaaThLT
import Derived.Test.YtdlnnjgjfngccaaF33
namespace Go.Proofs.Ytdlnnjgjfngccaa.Pure
open Go.RowKit Go.Proofs.YtdlnnjgjfngccaaW.PrintWords Go.Proofs.YtdlnnjgjfngccaaW.PrintMore Go.Proofs.Ytdlnnjgjfngccaa.F Go.Proofs.Ytdlnnjgjfngccaa.Th

theorem FnExactTwoCut : laws_FnExactTwoCut.Pure := by
  intro n l a b hn hl ha hb
  refine Ev.rounds (g := fun k => laws_FnExactTwoCut.f k n l a b) ?_
  simp only [laws_FnExactTwoCut.f]
  refine Ev.bind0 (szNet n l hl.1) ?_
  by_cases h3 : (l.length : Int) ≤ 1048576
  · rw [if_pos h3]
    have c := conv_length l
    have w := conv_wf l hl
    refine Ev.neg (by omega) (Ev.bind (ev_toNet n l (by omega)) (Ev.bind (ev_spec_TwoCut n (conv l) a b (by omega) w) (Ev.bind (ev_toNet n l (by omega)) (Ev.bind (ev_impl_TwoCut n (conv l) a b (by omega)) ?_))))
    refine Ev.pos (by rfl) ?_
    rw [bne_self_eq_false]
    refine Ev.succ ?_
    simp only [laws_FnExactTwoCut.j0]
    refine Ev.neg (by simp) ?_
    exact Ev.bind (ev_toNet n l (by omega)) (Ev.bind (ev_eqNet n (conv l) (by omega)) (Ev.pos (by first | rfl | trivial) (Ev.now _)))
  · rw [if_neg h3]
    exact Ev.pos (by omega) (Ev.now _)
end Go.Proofs.Ytdlnnjgjfngccaa.Pure
