/-
A net anew: the reference's l1Copy.
-/
import Derived.Test.YtdlnnjgjfngccaaTh1
import Derived.Test.YtdlnnjgjfngccaaF34
namespace Go.Proofs.Ytdlnnjgjfngccaa.Th
open Go.RowKit Go.Proofs.YtdlnnjgjfngccaaW.PrintWords Go.Proofs.YtdlnnjgjfngccaaW.PrintLast Go.Proofs.YtdlnnjgjfngccaaW.PrintMore Go.Proofs.Ytdlnnjgjfngccaa.F

theorem l1Copy (n : Int) (E : List T) (hE : E.length ≤ 1048576) : spec_l1Copy.f n E = some (n, E) := by
  unfold spec_l1Copy.f
  simp only [Option.bind_some, List.nil_append, List.length_nil]
  rw [if_pos (by omega)]
end Go.Proofs.Ytdlnnjgjfngccaa.Th
