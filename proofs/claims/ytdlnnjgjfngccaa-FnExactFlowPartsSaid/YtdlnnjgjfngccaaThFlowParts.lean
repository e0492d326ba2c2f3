/-
FlowParts: some ties of a net, in order, without which two knots are parted.
-/
import Derived.Test.YtdlnnjgjfngccaaThCut
import Derived.Test.YtdlnnjgjfngccaaThReach
import Derived.Test.YtdlnnjgjfngccaaThParts
import Derived.Test.YtdlnnjgjfngccaaThTwoKnots
import Derived.Test.YtdlnnjgjfngccaaF36
import Derived.Test.YtdlnnjgjfngccaaF39
import Derived.Test.YtdlnnjgjfngccaaF37
namespace Go.Proofs.Ytdlnnjgjfngccaa.Th
open Go.RowKit Go.Proofs.YtdlnnjgjfngccaaW.PrintWords Go.Proofs.YtdlnnjgjfngccaaW.PrintLast Go.Proofs.YtdlnnjgjfngccaaW.PrintMore Go.Proofs.Ytdlnnjgjfngccaa.F

/-- Ties of a net, in order. -/
def Own (E L : List T) : Prop := (∀ t ∈ L, t ∈ E) ∧ Asc L
theorem Own.ok {n : Int} {E L : List T} (h : OK n E) (o : Own E L) : OK n L := ⟨h.n0, h.n8, fun t ht => h.tie t (o.1 t ht), o.2⟩
def FlowParts (n : Int) (E : List T) (a b : Int) (L : List T) : Prop := Two2 n E a b ∧ Own E L ∧ ¬ Conn (less E (· ∈ L)) a b
theorem ev_own_loop (n : Int) (E L : List T) (hE : E.length ≤ 1048576) (hL : L.length ≤ 1048576) : ∀ (d i : Nat), i + d = L.length → Ev (fun k => impl_Net_own.l0 k L L L.length i n E) (dec ((∀ t ∈ L.drop i, t ∈ E) ∧ Asc L))
  | 0, i, h => by
    refine Ev.succ ?_
    simp only [impl_Net_own.l0]
    refine Ev.neg (by omega) (Ev.bind (ev_ascending L hL) (Ev.some_ (dec_congr ?_)))
    rw [List.drop_of_length_le (by omega)]
    simp
  | d + 1, i, h => by
    have hi : i < L.length := by omega
    refine Ev.succ ?_
    simp only [impl_Net_own.l0, rd_T_nat L i hi]
    refine Ev.pos (by omega) (Ev.pos (by omega) (Ev.pos (by omega) (Ev.bind (ev_contains E L[i] hE) ?_)))
    rw [List.drop_eq_getElem_cons hi, w64 (by omega)]
    by_cases h0 : L[i] ∈ E
    · refine Ev.pos (dec_t h0) (Ev.cast (ev_own_loop n E L hE hL d (i + 1) (by omega)) (dec_congr ?_))
      simp only [List.forall_mem_cons, h0, true_and]
    · refine Ev.neg (by rw [dec_f h0]; simp) (Ev.ff (fun k => h0 (k.1 _ List.mem_cons_self)) (Ev.now _))
theorem ev_own (n : Int) (E L : List T) (hE : E.length ≤ 1048576) (hL : L.length ≤ 1048576) : Ev (fun k => impl_Net_own.f k n E L) (dec (Own E L)) := by
  simp only [impl_Net_own.f]
  exact ev_own_loop n E L hE hL L.length 0 (by omega)
theorem ev_impl_FlowParts (n : Int) (E : List T) (a b : Int) (L : List T) (hE : E.length ≤ 1048576) (hL : L.length ≤ 1048576) : Ev (fun k => impl_FlowParts.f k n E a b L) (dec (FlowParts n E a b L)) := by
  simp only [impl_FlowParts.f]
  refine Ev.bind (ev_twoKnots n E a b hE) ?_
  by_cases h2 : Two2 n E a b
  · refine Ev.pos (dec_t h2) (Ev.bind (ev_own n E L hE hL) ?_)
    by_cases ho : Own E L
    · refine Ev.pos (dec_t ho) (Ev.bind (ev_less n E L hE hL) (Ev.bind (ev_joined (h2.1.less _) h2.2.1 h2.2.2.1) (Ev.some_ ?_)))
      by_cases hc : Conn (less E (· ∈ L)) a b
      · rw [dec_t hc, dec_f (fun k => k.2.2 hc)]; rfl
      · rw [dec_f hc, dec_t ⟨h2, ho, hc⟩]; rfl
    · exact Ev.neg (by rw [dec_f ho]; simp) (Ev.ff (fun k => ho k.2.1) (Ev.now _))
  · exact Ev.neg (by rw [dec_f h2]; simp) (Ev.ff (fun k => h2 k.1) (Ev.now _))
theorem ev_spec_FlowParts_loop {n : Int} {E : List T} {a b : Int} {L : List T} (h : OK n E) (ha : In n a) (hb : In n b) (hL : OK n L) : ∀ (d i : Nat), i + d = L.length →
    Ev (fun k => spec_FlowParts.l0 k a b L i n (less E (· ∈ L.take i))) (dec ((∀ t ∈ L.drop i, t ∈ E) ∧ ¬ Conn (less E (· ∈ L)) a b))
  | 0, i, hd => by
    refine Ev.succ ?_
    simp only [spec_FlowParts.l0]
    refine Ev.neg (by omega) (Ev.bind (ev_spec_WayReach (h.less _) ha) (Ev.pos hb.1 (Ev.pos ?_ (Ev.some_ ?_))))
    · rw [reachL_length]; have := hb.1; have := hb.2; omega
    · rw [rd_reachL _ _ hb, List.take_of_length_le (by omega), List.drop_of_length_le (by omega)]
      by_cases hc : Conn (less E (· ∈ L)) a b
      · rw [dec_t hc, dec_f (fun k => k.2 hc)]; rfl
      · rw [dec_f hc, dec_t ⟨by simp, hc⟩]; rfl
  | d + 1, i, hd => by
    have hi : i < L.length := by omega
    have hl := hL.length
    have hlE := h.length
    have ht := hL.tie L[i] (List.getElem_mem hi)
    have hte : tie L[i].f0 L[i].f1 = L[i] := tie_of_mem ht.2.1
    have hno : L[i] ∉ L.take i := fun k => by
      obtain ⟨j, hj, e⟩ := List.mem_iff_getElem.1 k
      rw [List.length_take] at hj
      rw [List.getElem_take] at e
      have := List.pairwise_iff_getElem.1 hL.nodup j i (by omega) hi (by omega)
      exact this e
    refine Ev.succ ?_
    simp only [spec_FlowParts.l0, rd_T_nat L i hi]
    refine Ev.pos (by omega) (Ev.pos (by omega) ?_)
    rw [List.drop_eq_getElem_cons hi, w64 (by omega)]
    by_cases hm : L[i] ∈ E
    · have hh : Has (less E (· ∈ L.take i)) L[i].f0 L[i].f1 := by
        unfold Has
        rw [hte]
        exact mem_less.2 ⟨hm, hno⟩
      refine Ev.bind (ev_spec_NetCut (h.less _) hh) (Ev.pos rfl ?_)
      have e : less (less E (· ∈ L.take i)) (· = tie L[i].f0 L[i].f1) = less E (· ∈ L.take (i + 1)) := by
        rw [less_less, hte]
        refine less_congr (fun t _ => ?_)
        rw [← List.take_append_getElem hi, List.mem_append, List.mem_singleton]
      refine Ev.cast (g := fun k => spec_FlowParts.l0 k a b L ((i : Int) + 1) n (less (less E (· ∈ L.take i)) (· = tie L[i].f0 L[i].f1))) ?_ (dec_congr (p := (∀ t ∈ L.drop (i + 1), t ∈ E) ∧ ¬ Conn (less E (· ∈ L)) a b) ?_)
      · rw [e]
        exact ev_spec_FlowParts_loop h ha hb hL d (i + 1) (by omega)
      · simp only [List.forall_mem_cons, hm, true_and]
    · refine Ev.bind (ev_spec_NetCut_not (n := n) (by have := less_length_le E (· ∈ L.take i); omega) (h.less _).wf (fun k => hm ?_)) (Ev.neg (by simp) (Ev.ff (fun k => hm (k.1 _ List.mem_cons_self)) (Ev.now _)))
      have := k.2
      unfold Has at this
      rw [hte] at this
      exact (mem_less.1 this).1
theorem ev_spec_FlowParts (n : Int) (E : List T) (a b : Int) (L : List T) (hE : E.length ≤ 1048576) (hw : WF E) (hL : L.length ≤ 1048576) (hwL : WF L) : Ev (fun k => spec_FlowParts.f k n E a b L) (dec (FlowParts n E a b L)) := by
  have no : ¬ FlowParts n E a b L → Ev (fun k => spec_FlowParts.j0 k a b L true n E) (dec (FlowParts n E a b L)) := fun hq => by
    refine Ev.succ ?_
    simp only [spec_FlowParts.j0]
    exact Ev.pos trivial (Ev.ff hq (Ev.now _))
  simp only [spec_FlowParts.f]
  refine Ev.bind (ev_l1Knot n E a hE hw) ?_
  by_cases ha : OK n E ∧ In n a
  · refine Ev.pos (dec_t ha) (Ev.bind (ev_l1Knot n E b hE hw) ?_)
    by_cases hb : OK n E ∧ In n b
    · refine Ev.pos (dec_t hb) ?_
      by_cases e : a = b
      · exact Ev.pos e (no (fun k => k.1.2.2.2 e))
      · refine Ev.neg e (Ev.bind (ev_spec_NetOk n L hL hwL) ?_)
        by_cases ho : OK n L
        · rw [dec_t ho]
          refine Ev.succ ?_
          simp only [spec_FlowParts.j0]
          refine Ev.neg (by simp) (Ev.bind0 (l1Copy n E hE) ?_)
          have := ev_spec_FlowParts_loop (a := a) (b := b) ha.1 ha.2 hb.2 ho L.length 0 (by omega)
          rw [List.take_zero, less_none (by simp)] at this
          refine Ev.cast this (dec_congr ?_)
          rw [List.drop_zero]
          exact ⟨fun k => ⟨⟨ha.1, ha.2, hb.2, e⟩, ⟨k.1, ho.asc⟩, k.2⟩, fun k => ⟨k.2.1.1, k.2.2⟩⟩
        · rw [dec_f ho]
          exact no (fun k => ho (k.2.1.ok ha.1))
    · exact Ev.neg (by rw [dec_f hb]; simp) (no (fun k => hb ⟨k.1.1, k.1.2.2.1⟩))
  · exact Ev.neg (by rw [dec_f ha]; simp) (no (fun k => ha ⟨k.1.1, k.1.2.1⟩))
end Go.Proofs.Ytdlnnjgjfngccaa.Th
