/-
The program's WayReach.
-/
import Derived.Test.YtdlnnjgjfngccaaThReach
import Derived.Test.YtdlnnjgjfngccaaThParts
import Derived.Test.YtdlnnjgjfngccaaF72
namespace Go.Proofs.Ytdlnnjgjfngccaa.Th
open Go.RowKit Go.Proofs.YtdlnnjgjfngccaaW.PrintWords Go.Proofs.YtdlnnjgjfngccaaW.PrintLast Go.Proofs.YtdlnnjgjfngccaaW.PrintMore Go.Proofs.Ytdlnnjgjfngccaa.F

theorem ev_impl_WayReach_loop {n : Int} {E : List T} {a : Int} (h : OK n E) (ha : In n a) : ∀ (d : Nat) (i : Int), 0 ≤ i → i + d = n → Ev (fun k => impl_WayReach.l0 k a ((ks i).map (fun b => dec (Conn E a b))) (partsL n E) n i) (reachL n E a)
  | 0, i, h0, hd => by
    obtain rfl : i = n := by omega
    refine Ev.succ ?_
    simp only [impl_WayReach.l0]
    exact Ev.neg (by omega) (Ev.now _)
  | d + 1, i, h0, hd => by
    have h8 := h.n8
    have ha0 := ha.1
    have ha1 := ha.2
    refine Ev.succ ?_
    simp only [impl_WayReach.l0, partsL_length]
    refine Ev.pos (by omega) (Ev.pos (by omega) (Ev.pos (by omega) (Ev.pos (by omega) (Ev.pos (by omega) (Ev.pos (by rw [List.length_map, ks_length]; omega) ?_)))))
    rw [w64 (by omega), rd_partsL E ⟨h0, by omega⟩, rd_partsL E ha]
    have hr := ev_impl_WayReach_loop h ha d (i + 1) (by omega) (by omega)
    rw [ks_succ h0, List.map_append] at hr
    have e : (rep E i == rep E a) = dec (Conn E a i) := dec_of (by rw [beq_iff_eq]; exact ⟨fun k => (rep_iff E ha0 h0).1 k.symm, fun k => ((rep_iff E ha0 h0).2 k).symm⟩)
    rw [e]
    exact hr
theorem ev_impl_WayReach {n : Int} {E : List T} {a : Int} (h : OK n E) (ha : In n a) : Ev (fun k => impl_WayReach.f k n E a) (reachL n E a) := by
  have := h.length
  simp only [impl_WayReach.f]
  refine Ev.bind0 rfl (Ev.bind (ev_impl_NetOk n E (by omega)) (Ev.pos (dec_t h) (Ev.bind0 (knot_eq n E a) ?_)))
  rw [dec_t ha]
  refine Ev.succ ?_
  simp only [impl_WayReach.j0]
  refine Ev.neg (by simp) (Ev.bind (ev_parts h) ?_)
  rw [partsL_length, show ((n.toNat : Nat) : Int) = n by have := h.n0; omega]
  exact ev_impl_WayReach_loop h ha n.toNat 0 (by omega) (by have := h.n0; omega)
end Go.Proofs.Ytdlnnjgjfngccaa.Th
