/-
How many parts there are: the program's count, the reference's WayParts and WayCount.
-/
import Derived.Test.YtdlnnjgjfngccaaThReach
import Derived.Test.YtdlnnjgjfngccaaThParts
import Derived.Test.YtdlnnjgjfngccaaF61
import Derived.Test.YtdlnnjgjfngccaaF62
namespace Go.Proofs.Ytdlnnjgjfngccaa.Th
open Go.RowKit Go.Proofs.YtdlnnjgjfngccaaW.PrintWords Go.Proofs.YtdlnnjgjfngccaaW.PrintLast Go.Proofs.YtdlnnjgjfngccaaW.PrintMore Go.Proofs.Ytdlnnjgjfngccaa.F

theorem ev_WayParts_l1 {n : Int} {E : List T} {x r : Int} {out res : List Int} (h : OK n E) (hx : In n x) (hr : r = rep E x) (ho : out.length ≤ 1000) (hk : Ev (fun k => spec_WayParts.l0 k (out ++ [r]) (wrap64 (x + 1)) n E) res) : ∀ (d : Nat) (j : Int), 0 ≤ j → j + d = r →
    Ev (fun k => spec_WayParts.l1 k out x (reachL n E x) j n E) res
  | d, j, h0, hd => by
    have hle := rep_le E hx.1
    have h8 := h.n8
    have hj : In n j := ⟨h0, by have := hx.2; omega⟩
    refine Ev.succ ?_
    simp only [spec_WayParts.l1]
    refine Ev.pos h0 (Ev.pos (by rw [reachL_length]; have := hj.2; omega) ?_)
    rw [rd_reachL E x hj]
    cases d with
    | zero =>
      obtain rfl : j = r := by omega
      exact Ev.pos (dec_t (by rw [hr]; exact (rep_conn E hx.1).symm)) (Ev.pos (by omega) hk)
    | succ d =>
      refine Ev.neg (fun k => ?_) ?_
      · have := rep_least E hx.1 h0 (dec_iff.1 k).symm
        omega
      · rw [w64 (by have := hj.2; omega)]
        exact ev_WayParts_l1 h hx hr ho hk d (j + 1) (by omega) (by omega)
theorem ev_WayParts_l0 {n : Int} {E : List T} (h : OK n E) : ∀ (d : Nat) (x : Int), 0 ≤ x → x + d = n → Ev (fun k => spec_WayParts.l0 k ((ks x).map (rep E)) x n E) (partsL n E)
  | 0, x, h0, hd => by
    obtain rfl : x = n := by omega
    refine Ev.succ ?_
    simp only [spec_WayParts.l0]
    exact Ev.neg (by omega) (Ev.now _)
  | d + 1, x, h0, hd => by
    have h8 := h.n8
    have hx : In n x := ⟨h0, by omega⟩
    refine Ev.succ ?_
    simp only [spec_WayParts.l0]
    refine Ev.pos (by omega) (Ev.bind (ev_spec_WayReach h hx) ?_)
    refine ev_WayParts_l1 h hx rfl (by rw [List.length_map, ks_length]; omega) ?_ (rep E x).toNat 0 (by omega) (by have := rep_nonneg E h0; omega)
    rw [w64 (by omega)]
    have := ev_WayParts_l0 h d (x + 1) (by omega) (by omega)
    rw [ks_succ h0, List.map_append] at this
    exact this
theorem ev_spec_WayParts {n : Int} {E : List T} (h : OK n E) : Ev (fun k => spec_WayParts.f k n E) (partsL n E) := by
  have := h.length
  simp only [spec_WayParts.f]
  refine Ev.bind0 rfl (Ev.bind (ev_spec_NetOk n E (by omega) h.wf) (Ev.pos (dec_t h) ?_))
  exact ev_WayParts_l0 h n.toNat 0 (by omega) (by have := h.n0; omega)
theorem ev_spec_WayParts_not {n : Int} {E : List T} (hE : E.length ≤ 1048576) (hw : WF E) (h : ¬ OK n E) : Ev (fun k => spec_WayParts.f k n E) [] := by
  simp only [spec_WayParts.f]
  exact Ev.bind0 rfl (Ev.bind (ev_spec_NetOk n E hE hw) (Ev.neg (by rw [dec_f h]; simp) (Ev.now _)))
/-- Those that are the least of their parts, up to one. -/
noncomputable def cnt (E : List T) (x : Int) : Int := (((ks x).filter (isRep E)).length : Int)
theorem cnt_succ (E : List T) {x : Int} (h : 0 ≤ x) : cnt E (x + 1) = cnt E x + (if rep E x = x then 1 else 0) := by
  unfold cnt
  rw [ks_succ h, List.filter_append, List.length_append]
  by_cases e : rep E x = x
  · rw [if_pos e, List.filter_cons_of_pos (p := isRep E) (dec_t e)]; simp
  · rw [if_neg e, List.filter_cons_of_neg (p := isRep E) (by unfold isRep; rw [dec_f e]; simp)]; simp
theorem cnt_bound (E : List T) {x : Int} (h : 0 ≤ x) : 0 ≤ cnt E x ∧ cnt E x ≤ x := by
  unfold cnt
  have := List.length_filter_le (isRep E) (ks x)
  rw [ks_length] at this
  omega
theorem ev_spec_WayCount_loop {n : Int} {E : List T} (h : OK n E) : ∀ (d : Nat) (x : Int), 0 ≤ x → x + d = n → Ev (fun k => spec_WayCount.l0 k (partsL n E) (cnt E x) x) (countN n E)
  | 0, x, h0, hd => by
    obtain rfl : x = n := by omega
    refine Ev.succ ?_
    simp only [spec_WayCount.l0, partsL_length]
    exact Ev.neg (by omega) (Ev.now _)
  | d + 1, x, h0, hd => by
    have h8 := h.n8
    have hb := cnt_bound E h0
    refine Ev.succ ?_
    simp only [spec_WayCount.l0, partsL_length]
    refine Ev.pos (by omega) (Ev.pos h0 ?_)
    rw [rd_partsL E ⟨h0, by omega⟩, w64 (x := x + 1) (by omega)]
    have := ev_spec_WayCount_loop h d (x + 1) (by omega) (by omega)
    rw [cnt_succ E h0] at this
    by_cases e : rep E x = x
    · refine Ev.pos e ?_
      rw [if_pos e] at this
      rw [w64 (by omega)]
      exact this
    · refine Ev.neg e ?_
      rw [if_neg e] at this
      rw [Int.add_zero] at this
      exact this
theorem ev_spec_WayCount {n : Int} {E : List T} (h : OK n E) : Ev (fun k => spec_WayCount.f k n E) (countN n E) := by
  have := h.length
  simp only [spec_WayCount.f]
  refine Ev.bind (ev_spec_NetOk n E (by omega) h.wf) (Ev.pos (dec_t h) (Ev.bind (ev_spec_WayParts h) ?_))
  exact ev_spec_WayCount_loop h n.toNat 0 (by omega) (by have := h.n0; omega)
theorem ev_count_loop {n : Int} {E : List T} (h : OK n E) : ∀ (d : Nat) (x : Int), 0 ≤ x → x + d = n → Ev (fun k => impl_Net_count.l0 k (cnt E x) (partsL n E) (n.toNat : Int) x) (countN n E)
  | 0, x, h0, hd => by
    obtain rfl : x = n := by omega
    refine Ev.succ ?_
    simp only [impl_Net_count.l0]
    exact Ev.neg (by omega) (Ev.now _)
  | d + 1, x, h0, hd => by
    have h8 := h.n8
    have hb := cnt_bound E h0
    refine Ev.succ ?_
    simp only [impl_Net_count.l0, partsL_length]
    refine Ev.pos (by omega) (Ev.pos h0 (Ev.pos (by omega) ?_))
    rw [rd_partsL E ⟨h0, by omega⟩, w64 (x := x + 1) (by omega)]
    have := ev_count_loop h d (x + 1) (by omega) (by omega)
    rw [cnt_succ E h0] at this
    by_cases e : rep E x = x
    · refine Ev.pos e.symm ?_
      rw [if_pos e] at this
      rw [w64 (by omega)]
      exact this
    · refine Ev.neg (fun k => e k.symm) ?_
      rw [if_neg e] at this
      rw [Int.add_zero] at this
      exact this
theorem ev_count {n : Int} {E : List T} (h : OK n E) : Ev (fun k => impl_Net_count.f k n E) (countN n E) := by
  simp only [impl_Net_count.f]
  refine Ev.bind (ev_parts h) ?_
  rw [partsL_length]
  exact ev_count_loop h n.toNat 0 (by omega) (by have := h.n0; omega)
end Go.Proofs.Ytdlnnjgjfngccaa.Th
