/-
The program's parts: of each knot the least of its part.
-/
import Derived.Test.YtdlnnjgjfngccaaThG
import Derived.Test.YtdlnnjgjfngccaaF31
namespace Go.Proofs.Ytdlnnjgjfngccaa.Th
open Go.RowKit Go.Proofs.YtdlnnjgjfngccaaW.PrintWords Go.Proofs.YtdlnnjgjfngccaaW.PrintLast Go.Proofs.YtdlnnjgjfngccaaW.PrintMore Go.Proofs.Ytdlnnjgjfngccaa.F

/-- Labels: none is greater than its knot, each leads there. -/
structure Lab (n : Int) (E : List T) (out : List Int) : Prop where
  len : out.length = n.toNat
  le : ∀ x, In n x → 0 ≤ rd out x ∧ rd out x ≤ x
  ok : ∀ x, In n x → Conn E (rd out x) x
/-- Labels with which all ties agree are those of the least. -/
theorem Lab.done {n : Int} {E : List T} {out : List Int} (s : Lab n E out) (he : ∀ t ∈ E, rd out t.f0 = rd out t.f1) : out = partsL n E := by
  refine ext_rd (by rw [s.len]; unfold partsL; rw [List.length_map, ks_length]) (fun x h0 hx => ?_)
  rw [s.len] at hx
  have hx' : In n x := ⟨h0, by omega⟩
  unfold partsL
  rw [rd_mapks n _ x h0 hx'.2]
  have hk : ∀ a b, Conn E a b → rd out a = rd out b := fun a b c => by
    have := c.keeps (P := fun y => rd out a = rd out y) (fun b c m k => k.trans ?_) rfl
    · exact this
    · have := he _ m
      unfold tie at this
      split at this <;> simp only at this
      · exact this
      · exact this.symm
  refine (rep_unique E h0 (s.le x hx').1 (s.ok x hx') (fun j hj hc => ?_)).symm
  by_cases hjn : j < n
  · have := (s.le j ⟨hj, hjn⟩).2
    rw [hk j x hc] at this
    exact this
  · have := (s.le x hx').2
    omega
theorem Lab.nonneg {n : Int} {E : List T} {out : List Int} (s : Lab n E out) : 0 ≤ out.sum := by
  refine sum_nonneg out (fun x hx => ?_)
  obtain ⟨i, hi, e⟩ := List.mem_iff_getElem.1 hx
  have := (s.le i ⟨by omega, by have := s.len; omega⟩).1
  rw [rd_getElem _ i hi, e] at this
  exact this
/-- What a pass has done. -/
def Pass (E : List T) (out0 out : List Int) (ag : Bool) : Prop := ag = true ∧ out.sum < out0.sum ∨ ag = false ∧ out = out0 ∧ ∀ t ∈ E, rd out0 t.f0 = rd out0 t.f1
theorem mn_le (a b : Int) : mn a b ≤ a ∧ mn a b ≤ b ∧ (mn a b = a ∨ mn a b = b) := by unfold mn; split <;> omega
theorem ev_parts_l2 {n : Int} {E : List T} (h : OK n E) (out0 r : List Int) (hk : ∀ out ag, Lab n E out → Pass E out0 out ag → Ev (fun k => impl_Net_parts.l1 k out ag n E) r) :
    ∀ (d i : Nat) (out : List Int) (ag : Bool), i + d = E.length → Lab n E out → Pass (E.take i) out0 out ag → Ev (fun k => impl_Net_parts.l2 k out ag E E.length i n E) r
  | 0, i, out, ag, hi, s, p => by
    refine Ev.succ ?_
    simp only [impl_Net_parts.l2]
    refine Ev.neg (by omega) (hk out ag s ?_)
    rw [List.take_of_length_le (by omega)] at p
    exact p
  | d + 1, i, out, ag, hd, s, p => by
    have hi : i < E.length := by omega
    have hl := h.length
    have h8 := h.n8
    have ht := h.tie E[i] (List.getElem_mem hi)
    have hln := s.len
    refine Ev.succ ?_
    simp only [impl_Net_parts.l2, rd_T_nat E i hi]
    refine Ev.pos (by omega) (Ev.pos (by omega) (Ev.pos (by omega) (Ev.pos (by omega) (Ev.pos (by omega) (Ev.pos (by omega) (Ev.pos (by omega) ?_))))))
    rw [w64 (by omega)]
    by_cases e : rd out E[i].f0 = rd out E[i].f1
    · refine Ev.pos e (ev_parts_l2 h out0 r hk d (i + 1) out ag (by omega) s ?_)
      rcases p with p | ⟨p, rfl, q⟩
      · exact Or.inl p
      · refine Or.inr ⟨p, rfl, fun t ht => ?_⟩
        rw [← List.take_append_getElem hi] at ht
        rcases List.mem_append.1 ht with m | m
        · exact q t m
        · rw [List.mem_singleton] at m; subst m; exact e
    · have hm := mn_le (rd out E[i].f0) (rd out E[i].f1)
      generalize mn (rd out E[i].f0) (rd out E[i].f1) = m at hm
      have ha : In n E[i].f0 := ⟨by omega, by omega⟩
      have hb : In n E[i].f1 := ⟨by omega, by omega⟩
      have hla : E[i].f0 < (out.length : Int) := by omega
      have hc : Has E E[i].f0 E[i].f1 := has_of_mem h (List.getElem_mem hi)
      have hca : Conn E m E[i].f0 := by
        rcases hm.2.2 with e | e
        · rw [e]; exact s.ok _ ha
        · rw [e]; exact (s.ok _ hb).trans (Conn.one hc).symm
      have hrd : ∀ x, 0 ≤ x → rd ((out.set E[i].f0.toNat m).set E[i].f1.toNat m) x = if x = E[i].f0 ∨ x = E[i].f1 then m else rd out x := fun x hx => by
        rw [rd_set _ _ _ _ hb.1 (by rw [List.length_set]; omega) hx, rd_set _ _ _ _ ha.1 hla hx]
        by_cases e1 : x = E[i].f1
        · rw [if_pos e1, if_pos (Or.inr e1)]
        · rw [if_neg e1]
          by_cases e0 : x = E[i].f0
          · rw [if_pos e0, if_pos (Or.inl e0)]
          · rw [if_neg e0, if_neg (not_or.2 ⟨e0, e1⟩)]
      have hsum : ((out.set E[i].f0.toNat m).set E[i].f1.toNat m).sum < out.sum := by
        rw [sum_set _ _ _ (by rw [List.length_set]; omega), sum_set _ _ _ (by omega)]
        rw [List.getElem_set_ne (by omega)]
        rw [rd_i out _ ha.1 hla] at hm e
        rw [rd_i out _ hb.1 (by omega)] at hm e
        omega
      refine Ev.neg e (ev_parts_l2 h out0 r hk d (i + 1) _ true (by omega) ⟨by simp [s.len], fun x hx => ?_, fun x hx => ?_⟩ (Or.inl ⟨rfl, ?_⟩))
      · rw [hrd x hx.1]
        have := s.le x hx
        have := s.le _ ha
        have := s.le _ hb
        split
        · next e => rcases e with rfl | rfl <;> omega
        · omega
      · rw [hrd x hx.1]
        split
        · next e =>
          rcases e with rfl | rfl
          · exact hca
          · exact hca.step hc
        · exact s.ok x hx
      · rcases p with p | ⟨_, rfl, _⟩
        · omega
        · exact hsum
theorem ev_parts_l1 {n : Int} {E : List T} (h : OK n E) : ∀ (m : Nat) (out : List Int), Lab n E out → out.sum ≤ m → Ev (fun k => impl_Net_parts.l1 k out true n E) (partsL n E)
  | m, out, s, hm => by
    refine Ev.succ ?_
    simp only [impl_Net_parts.l1]
    refine Ev.pos trivial ?_
    refine ev_parts_l2 h out _ (fun out' ag s' p => ?_) E.length 0 out false (by omega) s (Or.inr ⟨rfl, rfl, by simp⟩)
    rcases p with ⟨rfl, p⟩ | ⟨rfl, rfl, p⟩
    · cases m with
      | zero => have := s'.nonneg; omega
      | succ m => exact ev_parts_l1 h m out' s' (by omega)
    · refine Ev.succ ?_
      simp only [impl_Net_parts.l1]
      exact Ev.neg (by simp) (Ev.some_ (s.done p))
theorem ev_parts_l0 {n : Int} {E : List T} (h : OK n E) : ∀ (d : Nat) (i : Int), 0 ≤ i → i + d = n → Ev (fun k => impl_Net_parts.l0 k (ks i) n i n E) (partsL n E)
  | 0, i, h0, hd => by
    obtain rfl : i = n := by omega
    refine Ev.succ ?_
    simp only [impl_Net_parts.l0]
    refine Ev.neg (by omega) ?_
    have hr : ∀ x, In i x → rd (ks i) x = x := fun x hx => by
      have := rd_mapks i (fun x => x) x hx.1 hx.2
      simpa using this
    have s : Lab i E (ks i) := ⟨ks_length i, fun x hx => by rw [hr x hx]; exact ⟨hx.1, Int.le_refl _⟩, fun x hx => by rw [hr x hx]; exact .refl _⟩
    exact ev_parts_l1 h (ks i).sum.toNat _ s (by have := s.nonneg; omega)
  | d + 1, i, h0, hd => by
    have := h.n8
    refine Ev.succ ?_
    simp only [impl_Net_parts.l0]
    refine Ev.pos (by omega) (Ev.pos (by rw [ks_length]; omega) ?_)
    rw [w64 (by omega), ← ks_succ h0]
    exact ev_parts_l0 h d (i + 1) (by omega) (by omega)
theorem ev_parts {n : Int} {E : List T} (h : OK n E) : Ev (fun k => impl_Net_parts.f k n E) (partsL n E) := by
  simp only [impl_Net_parts.f]
  exact ev_parts_l0 h n.toNat 0 (by omega) (by have := h.n0; omega)
theorem partsL_length (n : Int) (E : List T) : (partsL n E).length = n.toNat := by unfold partsL; rw [List.length_map, ks_length]
theorem rd_partsL {n : Int} (E : List T) {a : Int} (ha : In n a) : rd (partsL n E) a = rep E a := by
  unfold partsL; rw [rd_mapks n _ a ha.1 ha.2]
end Go.Proofs.Ytdlnnjgjfngccaa.Th
