/-
The reference's WayReach: all that is come to.
-/
import Derived.Test.YtdlnnjgjfngccaaThG
import Derived.Test.YtdlnnjgjfngccaaF28
namespace Go.Proofs.Ytdlnnjgjfngccaa.Th
open Go.RowKit Go.Proofs.YtdlnnjgjfngccaaW.PrintWords Go.Proofs.YtdlnnjgjfngccaaW.PrintLast Go.Proofs.YtdlnnjgjfngccaaW.PrintMore Go.Proofs.Ytdlnnjgjfngccaa.F

noncomputable def nextL (n : Int) (E : List T) (v : Int) : List Int := (ks n).filter (fun c => dec (Has E v c))
theorem mem_nextL {n : Int} {E : List T} {v c : Int} : c ∈ nextL n E v ↔ In n c ∧ Has E v c := by
  unfold nextL
  rw [List.mem_filter, mem_ks, dec_iff]
  exact Iff.rfl
theorem nextL_length (n : Int) (E : List T) (v : Int) : (nextL n E v).length ≤ n.toNat := by
  have := List.length_filter_le (fun c => dec (Has E v c)) (ks n)
  rw [ks_length] at this
  exact this
theorem ev_l2Next_loop (n : Int) (E : List T) (v : Int) (hE : E.length ≤ 1048576) (hn : n ≤ 1000) : ∀ (d : Nat) (i : Int) (out : List Int), 0 ≤ i → i + d = n → out.length ≤ i.toNat →
    Ev (fun k => spec_l2Next.l0 k v out i n E) (out ++ (ksFrom n i).filter (fun c => dec (Has E v c)))
  | 0, i, out, h0, h, _ => by
    refine Ev.succ ?_
    simp only [spec_l2Next.l0]
    refine Ev.neg (by omega) (Ev.some_ ?_)
    rw [ksFrom_end (by omega)]; simp
  | d + 1, i, out, h0, h, hl => by
    refine Ev.succ ?_
    simp only [spec_l2Next.l0]
    refine Ev.pos (by omega) (Ev.bind (ev_l1Has n E v i hE) ?_)
    rw [ksFrom_cons h0 (by omega), w64 (by omega)]
    by_cases hv : Has E v i
    · refine Ev.pos (dec_t hv) (Ev.pos (by omega) ?_)
      refine Ev.cast (ev_l2Next_loop n E v hE hn d (i + 1) (out ++ [i]) (by omega) (by omega) (by simp only [List.length_append, List.length_singleton]; omega)) ?_
      rw [List.filter_cons_of_pos (p := fun c => dec (Has E v c)) (dec_t hv)]; simp
    · refine Ev.neg (by rw [dec_f hv]; simp) ?_
      refine Ev.cast (ev_l2Next_loop n E v hE hn d (i + 1) out (by omega) (by omega) (by omega)) ?_
      rw [List.filter_cons_of_neg (p := fun c => dec (Has E v c)) (by rw [dec_f hv]; simp)]
theorem ev_l2Next {n : Int} {E : List T} (v : Int) (hE : E.length ≤ 1048576) (h0 : 0 ≤ n) (hn : n ≤ 1000) : Ev (fun k => spec_l2Next.f k n E v) (nextL n E v) := by
  simp only [spec_l2Next.f]
  refine Ev.cast (ev_l2Next_loop n E v hE hn n.toNat 0 [] (by omega) (by omega) (by simp)) ?_
  rw [ksFrom_zero]; rfl

/-- What holds of a search for all that is come to: what is seen, and what waits. -/
structure Srch (n : Int) (E : List T) (a : Int) (seen : List Bool) (row : List Int) (at_ : Int → Prop) : Prop where
  len : seen.length = n.toNat
  ok : ∀ x, In n x → rdOf false seen x = true → Conn E a x
  rows : ∀ x ∈ row, In n x ∧ rdOf false seen x = true
  shut : ∀ x, In n x → rdOf false seen x = true → x ∈ row ∨ at_ x ∨ ∀ c, In n c → Has E x c → rdOf false seen c = true
  self : rdOf false seen a = true
theorem Srch.done {n : Int} {E : List T} {a : Int} {seen : List Bool} (h : OK n E) (ha : In n a) (s : Srch n E a seen [] (fun _ => False)) : seen = reachL n E a := by
  refine ext_rdB (by rw [s.len]; unfold reachL; rw [List.length_map, ks_length]) (fun x h0 hx => ?_)
  rw [s.len] at hx
  have hx' : In n x := ⟨h0, by omega⟩
  unfold reachL
  rw [rdB_mapks n _ x h0 hx'.2]
  refine dec_of ⟨s.ok x hx', fun hc => ?_⟩
  have := hc.keeps (P := fun y => In n y ∧ rdOf false seen y = true) (fun b c m k => ⟨(h.has m).2.1, ?_⟩) ⟨ha, s.self⟩
  · exact this.2
  · rcases s.shut b k.1 k.2 with e | e | e
    · simp at e
    · exact e.elim
    · exact e c (h.has m).2.1 m
theorem ev_WayReach_inner {n : Int} {E : List T} {a v : Int} (h : OK n E) (r : List Bool) (m : Nat) (hv : Conn E a v) (ha : 0 ≤ a)
    (hk : ∀ seen row, Srch n E a seen row (fun _ => False) → 2 * falses seen + row.length ≤ m → Ev (fun k => spec_WayReach.l0 k seen row n E) r) :
    ∀ (d j : Nat) (seen : List Bool) (row : List Int), j + d = (nextL n E v).length → Srch n E a seen row (· = v) → (∀ i < j, rdOf false seen (rd (nextL n E v) i) = true) → 2 * falses seen + row.length ≤ m → row.length + falses seen ≤ 100 →
      Ev (fun k => spec_WayReach.l1 k seen row (nextL n E v) j n E) r
  | 0, j, seen, row, hd, s, hj, hm, hb => by
    refine Ev.succ ?_
    simp only [spec_WayReach.l1]
    refine Ev.neg (by omega) (hk seen row ⟨s.len, s.ok, s.rows, fun x hx k => ?_, s.self⟩ hm)
    rcases s.shut x hx k with e | e | e
    · exact Or.inl e
    · subst e
      refine Or.inr (Or.inr (fun c hc hh => ?_))
      obtain ⟨i, hi, e⟩ := List.mem_iff_getElem.1 (mem_nextL.2 ⟨hc, hh⟩)
      have := hj i (by omega)
      rw [rd_getElem _ i hi, e] at this
      exact this
    · exact Or.inr (Or.inr e)
  | d + 1, j, seen, row, hd, s, hj, hm, hb => by
    have hjl : j < (nextL n E v).length := by omega
    have hl := nextL_length n E v
    have h8 := h.n8
    have hc := mem_nextL.1 (List.getElem_mem hjl)
    refine Ev.succ ?_
    simp only [spec_WayReach.l1, rd_getElem _ j hjl]
    have hcl : (nextL n E v)[j] < (seen.length : Int) := by have := s.len; have := hc.1.1; have := hc.1.2; omega
    refine Ev.pos (by omega) (Ev.pos (by omega) (Ev.pos hc.1.1 (Ev.pos hcl ?_)))
    rw [w64 (by omega)]
    by_cases e : rdOf false seen (nextL n E v)[j] = true
    · refine Ev.pos e ?_
      refine ev_WayReach_inner h r m hv ha hk d (j + 1) seen row (by omega) s (fun i hi => ?_) hm hb
      by_cases hij : i = j
      · subst hij; rw [rd_getElem _ i hjl]; exact e
      · exact hj i (by omega)
    · refine Ev.neg e (Ev.pos (by omega) ?_)
      have hset := rdB_set seen (nextL n E v)[j]
      have hf : falses (seen.set (nextL n E v)[j].toNat true) + 1 = falses seen := by
        refine falses_set seen _ (by have := hc.1.1; omega) ?_
        rw [rdB_i _ _ hc.1.1 hcl] at e
        exact Bool.eq_false_iff.2 e
      refine ev_WayReach_inner h r m hv ha hk d (j + 1) _ _ (by omega) ⟨by rw [List.length_set]; exact s.len, fun x hx => ?_, fun x hx => ?_, fun x hx => ?_, ?_⟩ (fun i hi => ?_) (by simp only [List.length_append, List.length_singleton]; omega) (by simp only [List.length_append, List.length_singleton]; omega)
      · rw [hset x true hc.1.1 hcl hx.1]
        split
        · next e => intro _; subst e; exact hv.step hc.2
        · exact s.ok x hx
      · rcases List.mem_append.1 hx with hx | hx
        · have := s.rows x hx
          rw [hset x true hc.1.1 hcl this.1.1]
          exact ⟨this.1, by split <;> simp_all⟩
        · rw [List.mem_singleton] at hx
          subst hx
          rw [hset _ true hc.1.1 hcl hc.1.1, if_pos rfl]
          exact ⟨hc.1, rfl⟩
      · rw [hset x true hc.1.1 hcl hx.1]
        split
        · next e => intro _; subst e; exact Or.inl (List.mem_append_right _ (by simp))
        · intro hk'
          rcases s.shut x hx hk' with e | e | e
          · exact Or.inl (List.mem_append_left _ e)
          · exact Or.inr (Or.inl e)
          · refine Or.inr (Or.inr (fun c hcc hh => ?_))
            rw [hset c true hc.1.1 hcl hcc.1]
            split
            · rfl
            · exact e c hcc hh
      · rw [hset a true hc.1.1 hcl ha]
        split
        · rfl
        · exact s.self
      · have hi' : i < (nextL n E v).length := by omega
        rw [hset _ true hc.1.1 hcl (by rw [rd_getElem _ i hi']; exact (mem_nextL.1 (List.getElem_mem hi')).1.1)]
        split
        · rfl
        · next e' =>
          by_cases hij : i = j
          · subst hij; exact absurd (rd_getElem _ i hjl) e'
          · exact hj i (by omega)
theorem ev_WayReach_outer {n : Int} {E : List T} {a : Int} (h : OK n E) (ha : In n a) : ∀ (m : Nat) (seen : List Bool) (row : List Int), Srch n E a seen row (fun _ => False) → 2 * falses seen + row.length ≤ m → m ≤ 100 →
    Ev (fun k => spec_WayReach.l0 k seen row n E) (reachL n E a)
  | m, seen, [], s, hm, hb => by
    refine Ev.succ ?_
    simp only [spec_WayReach.l0]
    exact Ev.neg (by simp) (Ev.some_ (s.done h ha))
  | 0, seen, v :: row, s, hm, hb => by simp at hm
  | m + 1, seen, v :: row, s, hm, hb => by
    simp only [List.length_cons] at hm
    refine Ev.succ ?_
    simp only [spec_WayReach.l0]
    have hl := h.length
    have r0 : rd (v :: row) 0 = v := rfl
    have hv := s.rows v List.mem_cons_self
    refine Ev.pos (by simp only [List.length_cons]; omega) (Ev.pos (by simp only [List.length_cons]; omega) (Ev.bind (a := nextL n E v) ?_ (Ev.pos (by simp only [List.length_cons]; omega) ?_)))
    · rw [r0]; exact ev_l2Next v (by omega) h.n0 (by have := h.n8; omega)
    · have hd : (v :: row).drop (1 : Int).toNat = row := rfl
      rw [hd]
      refine ev_WayReach_inner h (reachL n E a) m (s.ok v hv.1 hv.2) ha.1 (fun seen' row' s' hm' => ev_WayReach_outer h ha m seen' row' s' hm' (by omega)) (nextL n E v).length 0 seen row (by omega) ⟨s.len, s.ok, fun x hx => s.rows x (List.mem_cons_of_mem _ hx), fun x hx k => ?_, s.self⟩ (by intro i hi; omega) (by omega) (by omega)
      rcases s.shut x hx k with e | e | e
      · rcases List.mem_cons.1 e with e | e
        · exact Or.inr (Or.inl e)
        · exact Or.inl e
      · exact e.elim
      · exact Or.inr (Or.inr e)
theorem falses_replicate (m : Nat) : falses (List.replicate m false) = m := by
  induction m with
  | zero => rfl
  | succ m ih => rw [List.replicate_succ]; simp only [falses, ih]; simp; omega
/-- The reference's WayReach. -/
theorem ev_spec_WayReach {n : Int} {E : List T} {a : Int} (h : OK n E) (ha : In n a) : Ev (fun k => spec_WayReach.f k n E a) (reachL n E a) := by
  have h0 := h.n0
  have h8 := h.n8
  have hl := h.length
  simp only [spec_WayReach.f]
  refine Ev.bind (ev_l1Knot n E a (by omega) h.wf) (Ev.pos (dec_t ⟨h, ha⟩) (Ev.pos h0 (Ev.pos (by omega) (Ev.bind0 rfl (Ev.pos ha.1 (Ev.pos ?_ ?_))))))
  · rw [List.length_replicate]; have := ha.2; omega
  · have hla : a < ((List.replicate n.toNat false).length : Int) := by rw [List.length_replicate]; have := ha.2; omega
    have hset := fun x => rdB_set (List.replicate n.toNat false) a x true ha.1 hla
    have hrep : ∀ x, rdOf false (List.replicate n.toNat false) x = false := fun x => by
      unfold rdOf
      rw [List.getD_eq_getElem?_getD, List.getElem?_replicate]
      split <;> rfl
    have hf : falses ((List.replicate n.toNat false).set a.toNat true) + 1 = n.toNat := by
      rw [falses_set _ _ (by have := ha.1; omega) (by simp), falses_replicate]
    refine ev_WayReach_outer h ha 100 _ _ ⟨by simp, fun x hx k => ?_, fun x hx => ?_, fun x hx k => ?_, ?_⟩ (by simp only [List.length_singleton]; omega) (by omega)
    · rw [hset x hx.1] at k
      split at k
      · next e => subst e; exact .refl _
      · rw [hrep] at k; simp at k
    · rw [List.mem_singleton] at hx
      subst hx
      rw [hset x ha.1, if_pos rfl]
      exact ⟨ha, rfl⟩
    · rw [hset x hx.1] at k
      split at k
      · next e => subst e; exact Or.inl (by simp)
      · rw [hrep] at k; simp at k
    · rw [hset a ha.1, if_pos rfl]
theorem reachL_length (n : Int) (E : List T) (a : Int) : (reachL n E a).length = n.toNat := by unfold reachL; rw [List.length_map, ks_length]
theorem rd_reachL {n : Int} (E : List T) (a : Int) {b : Int} (hb : In n b) : rdOf false (reachL n E a) b = dec (Conn E a b) := by
  unfold reachL; rw [rdB_mapks n _ b hb.1 hb.2]
end Go.Proofs.Ytdlnnjgjfngccaa.Th
