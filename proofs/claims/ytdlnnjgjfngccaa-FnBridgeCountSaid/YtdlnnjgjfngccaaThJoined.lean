/-
The program's 'joined'.
-/
import Derived.Test.YtdlnnjgjfngccaaThParts
import Derived.Test.YtdlnnjgjfngccaaF32
namespace Go.Proofs.Ytdlnnjgjfngccaa.Th
open Go.RowKit Go.Proofs.YtdlnnjgjfngccaaW.PrintWords Go.Proofs.YtdlnnjgjfngccaaW.PrintLast Go.Proofs.YtdlnnjgjfngccaaW.PrintMore Go.Proofs.Ytdlnnjgjfngccaa.F

theorem ev_joined {n : Int} {E : List T} (h : OK n E) {a b : Int} (ha : In n a) (hb : In n b) : Ev (fun k => impl_Net_joined.f k n E a b) (dec (Conn E a b)) := by
  simp only [impl_Net_joined.f]
  have := ha.1
  have := ha.2
  have := hb.1
  have := hb.2
  refine Ev.bind (ev_parts h) ?_
  rw [partsL_length]
  refine Ev.pos (by omega) (Ev.pos (by omega) (Ev.pos (by omega) (Ev.pos (by omega) (Ev.some_ (dec_of ?_)))))
  rw [rd_partsL E ha, rd_partsL E hb, beq_iff_eq]
  exact rep_iff E ha.1 hb.1
end Go.Proofs.Ytdlnnjgjfngccaa.Th
