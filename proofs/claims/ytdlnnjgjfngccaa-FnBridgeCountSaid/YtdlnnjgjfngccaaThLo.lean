/-
What the laws compare with: rows of numbers.
-/
import Derived.Test.YtdlnnjgjfngccaaThU
import Derived.Test.YtdlnnjgjfngccaaF71
namespace Go.Proofs.Ytdlnnjgjfngccaa.Th
open Go.RowKit Go.Proofs.YtdlnnjgjfngccaaW.PrintWords Go.Proofs.YtdlnnjgjfngccaaW.PrintLast Go.Proofs.YtdlnnjgjfngccaaW.PrintMore Go.Proofs.Ytdlnnjgjfngccaa.F

theorem ev_loInts_loop (l : List Int) (hl : l.length ≤ 1048576) : ∀ (d i : Nat), i + d = l.length → Ev (fun k => laws_loInts.l0 k l l i) true
  | 0, i, h => by
    refine Ev.succ ?_
    simp only [laws_loInts.l0]
    exact Ev.neg (by omega) (Ev.now _)
  | d + 1, i, h => by
    refine Ev.succ ?_
    simp only [laws_loInts.l0]
    refine Ev.pos (by omega) (Ev.pos (by omega) (Ev.pos (by omega) (Ev.pos trivial ?_)))
    rw [w64 (by omega)]
    exact ev_loInts_loop l hl d (i + 1) (by omega)
theorem ev_loInts (l : List Int) (hl : l.length ≤ 1048576) : Ev (fun k => laws_loInts.f k l l) true := by
  simp only [laws_loInts.f]
  exact Ev.pos trivial (ev_loInts_loop l hl l.length 0 (by omega))
end Go.Proofs.Ytdlnnjgjfngccaa.Th
