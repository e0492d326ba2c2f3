/-
Bridges: the ties without which their ends are parted.
-/
import Derived.Test.YtdlnnjgjfngccaaThLess
import Derived.Test.YtdlnnjgjfngccaaThCopy
import Derived.Test.YtdlnnjgjfngccaaThJoined
import Derived.Test.YtdlnnjgjfngccaaThCls
import Derived.Test.YtdlnnjgjfngccaaThCount
import Derived.Test.YtdlnnjgjfngccaaThCut
import Derived.Test.YtdlnnjgjfngccaaF67
import Derived.Test.YtdlnnjgjfngccaaF68
import Derived.Test.YtdlnnjgjfngccaaF80
import Derived.Test.YtdlnnjgjfngccaaF81
namespace Go.Proofs.Ytdlnnjgjfngccaa.Th
open Go.RowKit Go.Proofs.YtdlnnjgjfngccaaW.PrintWords Go.Proofs.YtdlnnjgjfngccaaW.PrintLast Go.Proofs.YtdlnnjgjfngccaaW.PrintMore Go.Proofs.Ytdlnnjgjfngccaa.F

def Bridge (E : List T) (t : T) : Prop := ¬ Conn (less E (· = t)) t.f0 t.f1
noncomputable def bridgesL (E : List T) : List T := E.filter (fun t => dec (Bridge E t))
theorem mem_bridgesL {E : List T} {t : T} : t ∈ bridgesL E ↔ t ∈ E ∧ Bridge E t := by
  unfold bridgesL
  rw [List.mem_filter, dec_iff]
theorem bridgesL_length (E : List T) : (bridgesL E).length ≤ E.length := List.length_filter_le _ _
theorem OK.bridges {n : Int} {E : List T} (h : OK n E) : OK n (bridgesL E) := h.filter _
/-- The ties that are left without the first ones of some, and the next one. -/
theorem less_take {E L : List T} (hn : L.Nodup) {i : Nat} (hi : i < L.length) : less (less E (· ∈ L.take i)) (· = L[i]) = less E (· ∈ L.take (i + 1)) ∧ (L[i] ∈ E → L[i] ∈ less E (· ∈ L.take i)) := by
  constructor
  · rw [less_less]
    refine less_congr (fun t _ => ?_)
    rw [← List.take_append_getElem hi, List.mem_append, List.mem_singleton]
  · intro hm
    refine mem_less.2 ⟨hm, fun k => ?_⟩
    obtain ⟨j, hj, e⟩ := List.mem_iff_getElem.1 k
    rw [List.length_take] at hj
    rw [List.getElem_take] at e
    exact List.pairwise_iff_getElem.1 hn j i (by omega) hi (by omega) e
theorem ev_bridges_loop {n : Int} {E : List T} (h : OK n E) : ∀ (d i : Nat) (out : List T), i + d = E.length → out.length ≤ i →
    Ev (fun k => impl_Net_bridges.l0 k out E E.length i n E) (out ++ (E.drop i).filter (fun t => dec (Bridge E t)))
  | 0, i, out, hd, hl => by
    refine Ev.succ ?_
    simp only [impl_Net_bridges.l0]
    refine Ev.neg (by omega) (Ev.some_ ?_)
    rw [List.drop_of_length_le (by omega)]; simp
  | d + 1, i, out, hd, hl => by
    have hi : i < E.length := by omega
    have hlE := h.length
    have ht := h.tie E[i] (List.getElem_mem hi)
    refine Ev.succ ?_
    simp only [impl_Net_bridges.l0, rd_T_nat E i hi]
    refine Ev.pos (by omega) (Ev.pos (by omega) (Ev.pos (by omega) (Ev.bind (ev_less n E [E[i]] (by omega) (by simp)) ?_)))
    rw [less_one]
    refine Ev.bind (ev_joined (h.less _) ⟨by omega, by omega⟩ ⟨by omega, by omega⟩) ?_
    rw [w64 (by omega), List.drop_eq_getElem_cons hi]
    by_cases hc : Conn (less E (· = E[i])) E[i].f0 E[i].f1
    · refine Ev.pos (dec_t hc) (Ev.cast (ev_bridges_loop h d (i + 1) out (by omega) (by omega)) ?_)
      rw [List.filter_cons_of_neg (p := fun t => dec (Bridge E t)) (by rw [dec_f (fun k : Bridge E E[i] => k hc)]; simp)]
    · refine Ev.neg (by rw [dec_f hc]; simp) (Ev.pos (by omega) (Ev.cast (ev_bridges_loop h d (i + 1) (out ++ [E[i]]) (by omega) (by simp only [List.length_append, List.length_singleton]; omega)) ?_))
      rw [List.filter_cons_of_pos (p := fun t => dec (Bridge E t)) (dec_t (show Bridge E E[i] from hc))]
      simp
theorem ev_bridges {n : Int} {E : List T} (h : OK n E) : Ev (fun k => impl_Net_bridges.f k n E) (bridgesL E) := by
  simp only [impl_Net_bridges.f]
  exact ev_bridges_loop h E.length 0 [] (by omega) (by simp)
theorem ev_impl_BridgeList {n : Int} {E : List T} (h : OK n E) : Ev (fun k => impl_BridgeList.f k n E) (bridgesL E) := by
  have := h.length
  simp only [impl_BridgeList.f]
  exact Ev.bind (ev_impl_NetOk n E (by omega)) (Ev.pos (dec_t h) (Ev.bind (ev_bridges h) (Ev.now _)))
/-- The labels without bridges; of no valid net none. -/
noncomputable def bridgeParts (n : Int) (E : List T) : List Int := @ite _ (OK n E) (Classical.propDecidable _) (partsL n (less E (· ∈ bridgesL E))) []
theorem bridgeParts_length (n : Int) (E : List T) : (bridgeParts n E).length ≤ 8 := by
  unfold bridgeParts
  split
  · next h => rw [partsL_length]; have := h.n8; omega
  · simp
theorem ev_impl_BridgeParts (n : Int) (E : List T) (hE : E.length ≤ 1048576) : Ev (fun k => impl_BridgeParts.f k n E) (bridgeParts n E) := by
  simp only [impl_BridgeParts.f]
  refine Ev.bind (ev_impl_NetOk n E hE) ?_
  unfold bridgeParts
  by_cases h : OK n E
  · rw [if_pos h]
    have := bridgesL_length E
    exact Ev.pos (dec_t h) (Ev.bind (ev_bridges h) (Ev.bind (ev_less n E _ hE (by omega)) (Ev.bind (ev_parts (h.less _)) (Ev.now _))))
  · rw [if_neg h]
    exact Ev.neg (by rw [dec_f h]; simp) (Ev.now _)
theorem ev_spec_BridgeIs {n : Int} {E : List T} {t : T} (h : OK n E) (ht : t ∈ E) : Ev (fun k => spec_BridgeIs.f k n E t.f0 t.f1) (dec (Bridge E t)) := by
  have htt := tie_self h ht
  simp only [spec_BridgeIs.f]
  refine Ev.bind (ev_spec_NetCut h (has_of_mem h ht)) (Ev.pos rfl ?_)
  rw [htt]
  refine Ev.bind (ev_spec_WayCount (h.less _)) (Ev.bind (ev_spec_WayCount h) (Ev.some_ (dec_of ?_)))
  rw [decide_eq_true_iff, countN_less h ht, ← show Bridge E t = ¬ Conn (less E (· = t)) t.f0 t.f1 from rfl]
  by_cases hc : Bridge E t
  · rw [one_t hc]; exact ⟨fun _ => hc, fun _ => by omega⟩
  · rw [one_f hc]; exact ⟨fun k => by omega, fun k => absurd k hc⟩
theorem ev_spec_BridgeList_loop {n : Int} {E : List T} (h : OK n E) : ∀ (d i : Nat) (out : List T), i + d = E.length → out.length ≤ i →
    Ev (fun k => spec_BridgeList.l0 k out i n E) (out ++ (E.drop i).filter (fun t => dec (Bridge E t)))
  | 0, i, out, hd, hl => by
    refine Ev.succ ?_
    simp only [spec_BridgeList.l0]
    refine Ev.neg (by omega) (Ev.some_ ?_)
    rw [List.drop_of_length_le (by omega)]; simp
  | d + 1, i, out, hd, hl => by
    have hi : i < E.length := by omega
    have hlE := h.length
    refine Ev.succ ?_
    simp only [spec_BridgeList.l0, rd_T_nat E i hi]
    refine Ev.pos (by omega) (Ev.pos (by omega) (Ev.bind (ev_spec_BridgeIs h (List.getElem_mem hi)) ?_))
    rw [w64 (by omega), List.drop_eq_getElem_cons hi]
    by_cases hc : Bridge E E[i]
    · refine Ev.pos (dec_t hc) (Ev.pos (by omega) (Ev.cast (ev_spec_BridgeList_loop h d (i + 1) (out ++ [E[i]]) (by omega) (by simp only [List.length_append, List.length_singleton]; omega)) ?_))
      rw [List.filter_cons_of_pos (p := fun t => dec (Bridge E t)) (dec_t hc)]
      simp
    · refine Ev.neg (by rw [dec_f hc]; simp) (Ev.cast (ev_spec_BridgeList_loop h d (i + 1) out (by omega) (by omega)) ?_)
      rw [List.filter_cons_of_neg (p := fun t => dec (Bridge E t)) (by rw [dec_f hc]; simp)]
theorem ev_spec_BridgeList {n : Int} {E : List T} (h : OK n E) : Ev (fun k => spec_BridgeList.f k n E) (bridgesL E) := by
  have := h.length
  simp only [spec_BridgeList.f]
  exact Ev.bind0 rfl (Ev.bind (ev_spec_NetOk n E (by omega) h.wf) (Ev.pos (dec_t h) (ev_spec_BridgeList_loop h E.length 0 [] (by omega) (by simp))))
theorem ev_spec_BridgeParts_loop {n : Int} {E L : List T} (h : OK n E) (hL : OK n L) (hs : ∀ t ∈ L, t ∈ E) : ∀ (d i : Nat), i + d = L.length →
    Ev (fun k => spec_BridgeParts.l0 k L i n (less E (· ∈ L.take i))) (partsL n (less E (· ∈ L)))
  | 0, i, hd => by
    refine Ev.succ ?_
    simp only [spec_BridgeParts.l0]
    rw [List.take_of_length_le (by omega)]
    exact Ev.neg (by omega) (Ev.bind (ev_spec_WayParts (h.less _)) (Ev.now _))
  | d + 1, i, hd => by
    have hi : i < L.length := by omega
    have hl := hL.length
    obtain ⟨e, hm⟩ := less_take (E := E) hL.nodup hi
    have hm := hm (hs _ (List.getElem_mem hi))
    have htt := tie_self hL (List.getElem_mem hi)
    refine Ev.succ ?_
    simp only [spec_BridgeParts.l0, rd_T_nat L i hi]
    refine Ev.pos (by omega) (Ev.pos (by omega) (Ev.bind (ev_spec_NetCut (h.less _) (has_of_mem (h.less _) hm)) ?_))
    rw [w64 (by omega), htt]
    dsimp only
    rw [e]
    exact ev_spec_BridgeParts_loop h hL hs d (i + 1) (by omega)
theorem ev_spec_BridgeParts (n : Int) (E : List T) (hE : E.length ≤ 1048576) (hw : WF E) : Ev (fun k => spec_BridgeParts.f k n E) (bridgeParts n E) := by
  simp only [spec_BridgeParts.f]
  refine Ev.bind (ev_spec_NetOk n E hE hw) ?_
  unfold bridgeParts
  by_cases h : OK n E
  · rw [if_pos h]
    refine Ev.pos (dec_t h) (Ev.bind0 (l1Copy n E hE) (Ev.bind (ev_spec_BridgeList h) ?_))
    have := ev_spec_BridgeParts_loop h h.bridges (fun t ht => (mem_bridgesL.1 ht).1) (bridgesL E).length 0 (by omega)
    rw [List.take_zero, less_none (by simp)] at this
    exact this
  · rw [if_neg h]
    exact Ev.neg (by rw [dec_f h]; simp) (Ev.now _)
/-- Each bridge less is a part more. -/
theorem countN_bridges {n : Int} {E : List T} (h : OK n E) : ∀ i : Nat, i ≤ (bridgesL E).length → countN n (less E (· ∈ (bridgesL E).take i)) = countN n E + i
  | 0, _ => by rw [List.take_zero, less_none (by simp)]; simp
  | i + 1, hi => by
    have ih := countN_bridges h i (by omega)
    have hi' : i < (bridgesL E).length := by omega
    obtain ⟨e, hm⟩ := less_take (E := E) h.bridges.nodup hi'
    have hb := mem_bridgesL.1 (List.getElem_mem hi')
    have hm := hm hb.1
    have := countN_less (h.less _) hm
    rw [e] at this
    rw [this, ih, one_t]
    · omega
    · intro k
      refine hb.2 (k.mono (fun s hs => ?_))
      rw [← e] at hs
      have := mem_less.1 hs
      exact mem_less.2 ⟨(mem_less.1 this.1).1, this.2⟩
end Go.Proofs.Ytdlnnjgjfngccaa.Th
