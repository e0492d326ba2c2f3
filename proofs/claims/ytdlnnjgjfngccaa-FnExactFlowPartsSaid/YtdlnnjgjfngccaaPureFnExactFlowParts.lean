/-
The program's FlowParts answers what the reference's answers, for all arguments: the plain statement, without Go.
-/
import Derived.Test.YtdlnnjgjfngccaaThFlowParts
import Derived.Test.YtdlnnjgjfngccaaThLT
import Derived.Test.YtdlnnjgjfngccaaF40
namespace Go.Proofs.Ytdlnnjgjfngccaa.Pure
open Go.RowKit Go.Proofs.YtdlnnjgjfngccaaW.PrintWords Go.Proofs.YtdlnnjgjfngccaaW.PrintMore Go.Proofs.Ytdlnnjgjfngccaa.F Go.Proofs.Ytdlnnjgjfngccaa.Th

theorem FnExactFlowParts : laws_FnExactFlowParts.Pure := by
  intro n l a b m hn hl ha hb hm
  refine Ev.rounds (g := fun k => laws_FnExactFlowParts.f k n l a b m) ?_
  simp only [laws_FnExactFlowParts.f]
  refine Ev.bind0 (szNet n l hl.1) ?_
  by_cases h3 : (l.length : Int) ≤ 1048576
  · rw [if_pos h3]
    refine Ev.neg (by omega) (Ev.bind0 (szTieS m _ hm.1 (by omega)) ?_)
    by_cases h4 : (1048576 : Int) - l.length - m.length < 0
    · rw [if_pos h4]
      exact Ev.pos (by omega) (Ev.now _)
    · rw [if_neg h4]
      have c := conv_length l
      have w := conv_wf l hl
      have c' := conv_length m
      have w' := conv_wf m hm
      refine Ev.neg (by omega) (Ev.bind (ev_toNet n l (by omega)) (Ev.bind (ev_toTieS m (by omega)) (Ev.bind (ev_spec_FlowParts n (conv l) a b (conv m) (by omega) w (by omega) w') ?_)))
      refine Ev.bind (ev_toNet n l (by omega)) (Ev.bind (ev_toTieS m (by omega)) (Ev.bind (ev_impl_FlowParts n (conv l) a b (conv m) (by omega) (by omega)) (Ev.neg (by simp) ?_)))
      refine Ev.bind (ev_toNet n l (by omega)) (Ev.bind (ev_eqNet n (conv l) (by omega)) (Ev.pos (by first | rfl | trivial) ?_))
      exact Ev.bind (ev_toTieS m (by omega)) (Ev.bind (ev_eqTieS (conv m) (by omega)) (Ev.pos (by first | rfl | trivial) (Ev.now _)))
  · rw [if_neg h3]
    exact Ev.pos (by omega) (Ev.now _)
end Go.Proofs.Ytdlnnjgjfngccaa.Pure
