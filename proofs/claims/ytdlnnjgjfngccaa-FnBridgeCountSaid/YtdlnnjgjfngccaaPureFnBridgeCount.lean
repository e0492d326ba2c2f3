/-
P35: there are as many parts without bridges as parts and bridges.
-/
import Derived.Test.YtdlnnjgjfngccaaThBridge
import Derived.Test.YtdlnnjgjfngccaaThLo
import Derived.Test.YtdlnnjgjfngccaaThDraw1
import Derived.Test.YtdlnnjgjfngccaaF66
import Derived.Test.YtdlnnjgjfngccaaF82
namespace Go.Proofs.Ytdlnnjgjfngccaa.Pure
open Go.RowKit Go.Proofs.YtdlnnjgjfngccaaW.PrintWords Go.Proofs.YtdlnnjgjfngccaaW.PrintLast Go.Proofs.YtdlnnjgjfngccaaW.PrintMore Go.Proofs.Ytdlnnjgjfngccaa.F Go.Proofs.Ytdlnnjgjfngccaa.Th

theorem ev_impl_WayCount {n : Int} {E : List T} (h : OK n E) : Ev (fun k => impl_WayCount.f k n E) (countN n E) := by
  have := h.length
  simp only [impl_WayCount.f]
  exact Ev.bind (ev_impl_NetOk n E (by omega)) (Ev.pos (dec_t h) (Ev.bind (ev_count h) (Ev.now _)))
theorem ev_bc_loop {n : Int} {E : List T} (h : OK n E) : ∀ (d : Nat) (x : Int), 0 ≤ x → x + d = n → Ev (fun k => laws_FnBridgeCount.l0 k (partsL n (less E (· ∈ bridgesL E))) (cnt (less E (· ∈ bridgesL E)) x) x n E) true
  | 0, x, h0, hd => by
    obtain rfl : x = n := by omega
    have h8 := h.n8
    have hl := h.length
    have := countN_bound x E h0
    have hb := bridgesL_length E
    have e := countN_bridges h (bridgesL E).length (Nat.le_refl _)
    rw [List.take_length] at e
    refine Ev.succ ?_
    simp only [laws_FnBridgeCount.l0, partsL_length]
    refine Ev.neg (by omega) (Ev.bind (ev_impl_WayCount h) (Ev.bind (ev_impl_BridgeList h) (Ev.some_ ?_)))
    rw [w64 (by omega), beq_iff_eq, ← e]
    rfl
  | d + 1, x, h0, hd => by
    have h8 := h.n8
    have hb := cnt_bound (less E (· ∈ bridgesL E)) h0
    have hr := ev_bc_loop h d (x + 1) (by omega) (by omega)
    rw [cnt_succ _ h0] at hr
    refine Ev.succ ?_
    simp only [laws_FnBridgeCount.l0, partsL_length]
    refine Ev.pos (by omega) (Ev.pos h0 ?_)
    rw [rd_partsL _ ⟨h0, by omega⟩, w64 (x := x + 1) (by omega)]
    by_cases e : rep (less E (· ∈ bridgesL E)) x = x
    · refine Ev.pos e ?_
      rw [if_pos e] at hr
      rw [w64 (by omega)]
      exact hr
    · refine Ev.neg e ?_
      rw [if_neg e, Int.add_zero] at hr
      exact hr
theorem FnBridgeCount : laws_FnBridgeCount.Pure := by
  intro l hl
  refine Ev.rounds (g := fun k => laws_FnBridgeCount.f k l) ?_
  simp only [laws_FnBridgeCount.f]
  by_cases h1 : (l.length : Int) > 1048576
  · exact Ev.pos h1 (Ev.now _)
  · obtain ⟨s, ho, hs⟩ := l6Open l hl
    obtain ⟨n, E, p, hd, hn, _⟩ := ev_l71Any hs 0 (by omega) (by omega)
    have hb := bridgeParts_length n E
    refine Ev.neg h1 (Ev.bind (a := (n, E)) ?_ ?_)
    · simp only [spec_DrawBridgeParts.f]
      exact Ev.bind0 ho (Ev.bind hd (Ev.now _))
    · refine Ev.bind (ev_impl_BridgeParts n E hn.le) (Ev.bind (ev_spec_BridgeParts n E hn.le hn.wf) (Ev.bind (ev_loInts _ (by omega)) (Ev.pos rfl (Ev.bind (ev_spec_NetOk n E hn.le hn.wf) ?_))))
      by_cases h : OK n E
      · rw [dec_t h]
        refine Ev.succ ?_
        simp only [laws_FnBridgeCount.j0]
        unfold bridgeParts
        rw [if_pos h]
        exact Ev.neg (by simp) (ev_bc_loop h n.toNat 0 (by omega) (by have := h.n0; omega))
      · rw [dec_f h]
        refine Ev.succ ?_
        simp only [laws_FnBridgeCount.j0]
        exact Ev.pos (by simp) (Ev.bind (ev_spec_BridgeParts n E hn.le hn.wf) (Ev.bind (ev_loInts _ (by omega)) (Ev.now _)))
end Go.Proofs.Ytdlnnjgjfngccaa.Pure
