/-
BlockCuts: the knots that are tied, and without which there are more parts.
-/
import Derived.Test.YtdlnnjgjfngccaaThCount
import Derived.Test.YtdlnnjgjfngccaaThWithout
import Derived.Test.YtdlnnjgjfngccaaF60
import Derived.Test.YtdlnnjgjfngccaaF63
namespace Go.Proofs.Ytdlnnjgjfngccaa.Th
open Go.RowKit Go.Proofs.YtdlnnjgjfngccaaW.PrintWords Go.Proofs.YtdlnnjgjfngccaaW.PrintLast Go.Proofs.YtdlnnjgjfngccaaW.PrintMore Go.Proofs.Ytdlnnjgjfngccaa.F

/-- A knot cuts. -/
def CutK (n : Int) (E : List T) (v : Int) : Prop := (∃ c, Has E v c) ∧ countN n E < countN n (lessK E v) - 1
noncomputable def cutsL (n : Int) (E : List T) : List Int := (ks n).filter (fun v => dec (CutK n E v))
noncomputable def cutsFrom (n : Int) (E : List T) (x : Int) : List Int := (ksFrom n x).filter (fun v => dec (CutK n E v))
theorem cutsFrom_pos {n : Int} {E : List T} {x : Int} (h0 : 0 ≤ x) (h : x < n) (hc : CutK n E x) : cutsFrom n E x = x :: cutsFrom n E (x + 1) := by
  unfold cutsFrom
  rw [ksFrom_cons h0 h, List.filter_cons_of_pos (p := fun v => dec (CutK n E v)) (dec_t hc)]
theorem cutsFrom_neg {n : Int} {E : List T} {x : Int} (h0 : 0 ≤ x) (h : x < n) (hc : ¬ CutK n E x) : cutsFrom n E x = cutsFrom n E (x + 1) := by
  unfold cutsFrom
  rw [ksFrom_cons h0 h, List.filter_cons_of_neg (p := fun v => dec (CutK n E v)) (by rw [dec_f hc]; simp)]
theorem cutsFrom_end {n : Int} {E : List T} {x : Int} (h : n ≤ x) : cutsFrom n E x = [] := by
  unfold cutsFrom; rw [ksFrom_end h]; rfl
theorem ev_alone {n : Int} {E : List T} (h : OK n E) (v : Int) : Ev (fun k => spec_l12Alone.f k n E v) (dec (¬ ∃ c, Has E v c)) := by
  have := h.length
  simp only [spec_l12Alone.f]
  refine Ev.bind (ev_l2Next v (by omega) h.n0 (by have := h.n8; omega)) (Ev.some_ (dec_of ?_))
  rw [beq_iff_eq]
  constructor
  · rintro e ⟨c, hc⟩
    have hm : c ∈ nextL n E v := mem_nextL.2 ⟨(h.has hc).2.1, hc⟩
    have := List.length_pos_of_mem hm
    omega
  · intro e
    have : nextL n E v = [] := List.eq_nil_iff_forall_not_mem.2 (fun c hc => e ⟨c, (mem_nextL.1 hc).2⟩)
    rw [this]; rfl
theorem ev_l12Parts {n : Int} {E : List T} (h : OK n E) {v : Int} (hv : In n v) : Ev (fun k => spec_l12Parts.f k n E v) (countN n (lessK E v) - 1) := by
  simp only [spec_l12Parts.f]
  refine Ev.bind (ev_spec_NetWithout h hv) (Ev.bind (ev_spec_WayCount (h.less _)) (Ev.some_ ?_))
  dsimp only
  have := countN_bound n (lessK E v) h.n0
  have := h.n8
  rw [w64 (by omega)]
theorem ev_spec_BlockCuts_loop {n : Int} {E : List T} (h : OK n E) : ∀ (d : Nat) (x : Int) (out : List Int), 0 ≤ x → x + d = n → out.length ≤ x.toNat → Ev (fun k => spec_BlockCuts.l0 k out x n E) (out ++ cutsFrom n E x)
  | 0, x, out, h0, hd, hl => by
    refine Ev.succ ?_
    simp only [spec_BlockCuts.l0]
    refine Ev.neg (by omega) (Ev.some_ ?_)
    rw [cutsFrom_end (by omega)]; simp
  | d + 1, x, out, h0, hd, hl => by
    have h8 := h.n8
    have hx : In n x := ⟨h0, by omega⟩
    refine Ev.succ ?_
    simp only [spec_BlockCuts.l0]
    refine Ev.pos (by omega) (Ev.bind (ev_alone h x) ?_)
    rw [w64 (by omega)]
    by_cases ha : ∃ c, Has E x c
    · refine Ev.neg (by rw [dec_f (fun k => k ha)]; simp) (Ev.bind (ev_l12Parts h hx) (Ev.bind (ev_spec_WayCount h) ?_))
      by_cases hc : countN n E < countN n (lessK E x) - 1
      · refine Ev.pos hc (Ev.pos (by omega) ?_)
        refine Ev.cast (ev_spec_BlockCuts_loop h d (x + 1) (out ++ [x]) (by omega) (by omega) (by simp only [List.length_append, List.length_singleton]; omega)) ?_
        rw [cutsFrom_pos h0 (by omega) ⟨ha, hc⟩]; simp
      · refine Ev.neg hc (Ev.cast (ev_spec_BlockCuts_loop h d (x + 1) out (by omega) (by omega) (by omega)) ?_)
        rw [cutsFrom_neg h0 (by omega) (fun k => hc k.2)]
    · refine Ev.pos (dec_t ha) (Ev.cast (ev_spec_BlockCuts_loop h d (x + 1) out (by omega) (by omega) (by omega)) ?_)
      rw [cutsFrom_neg h0 (by omega) (fun k => ha k.1)]
/-- A knot is tied just if some ties are left out with it. -/
theorem less_length_lt {n : Int} {E : List T} (h : OK n E) (v : Int) : (lessK E v).length < E.length ↔ ∃ c, Has E v c := by
  constructor
  · intro hl
    refine Classical.byContradiction (fun hn => ?_)
    have : lessK E v = E := less_none (fun t ht hk => hn (by
      have := has_of_mem h ht
      rcases hk with e | e
      · exact ⟨t.f1, by rw [← e]; exact this⟩
      · exact ⟨t.f0, by rw [← e]; exact this.symm⟩))
    rw [this] at hl
    omega
  · rintro ⟨c, hc⟩
    refine Classical.byContradiction (fun hn => ?_)
    have hle := less_length_le E (AtK v)
    have he : (less E (AtK v)).length = E.length := by have hn' : ¬ (less E (AtK v)).length < E.length := hn; omega
    have : less E (AtK v) = E := List.Sublist.eq_of_length List.filter_sublist he
    have hm : tie v c ∈ less E (AtK v) := by rw [this]; exact hc
    refine (mem_less.1 hm).2 ?_
    unfold tie
    split
    · exact Or.inl rfl
    · exact Or.inr rfl
theorem ev_impl_BlockCuts_loop {n : Int} {E : List T} (h : OK n E) : ∀ (d : Nat) (x : Int) (out : List Int), 0 ≤ x → x + d = n → out.length ≤ x.toNat → Ev (fun k => impl_BlockCuts.l0 k out n x n E) (out ++ cutsFrom n E x)
  | 0, x, out, h0, hd, hl => by
    refine Ev.succ ?_
    simp only [impl_BlockCuts.l0]
    refine Ev.neg (by omega) (Ev.some_ ?_)
    rw [cutsFrom_end (by omega)]; simp
  | d + 1, x, out, h0, hd, hl => by
    have h8 := h.n8
    have hb := countN_bound n (lessK E x) h.n0
    refine Ev.succ ?_
    simp only [impl_BlockCuts.l0]
    refine Ev.pos (by omega) (Ev.bind (ev_without h) ?_)
    rw [w64 (x := x + 1) (by omega)]
    by_cases ha : ∃ c, Has E x c
    · refine Ev.pos (by have := (less_length_lt h x).2 ha; dsimp only; omega) (Ev.bind (ev_count (h.less _)) (Ev.bind (ev_count h) ?_))
      rw [w64 (x := countN n (lessK E x) - 1) (by omega)]
      by_cases hc : countN n E < countN n (lessK E x) - 1
      · refine Ev.pos hc (Ev.pos (by omega) ?_)
        refine Ev.cast (ev_impl_BlockCuts_loop h d (x + 1) (out ++ [x]) (by omega) (by omega) (by simp only [List.length_append, List.length_singleton]; omega)) ?_
        rw [cutsFrom_pos h0 (by omega) ⟨ha, hc⟩]; simp
      · refine Ev.neg hc (Ev.cast (ev_impl_BlockCuts_loop h d (x + 1) out (by omega) (by omega) (by omega)) ?_)
        rw [cutsFrom_neg h0 (by omega) (fun k => hc k.2)]
    · refine Ev.neg (fun k => ha ((less_length_lt h x).1 (by dsimp only at k; omega))) (Ev.cast (ev_impl_BlockCuts_loop h d (x + 1) out (by omega) (by omega) (by omega)) ?_)
      rw [cutsFrom_neg h0 (by omega) (fun k => ha k.1)]
/-- Of any net: none if it is not valid. -/
noncomputable def blockCuts (n : Int) (E : List T) : List Int := @ite _ (OK n E) (Classical.propDecidable _) (cutsL n E) []
theorem ev_spec_BlockCuts (n : Int) (E : List T) (hE : E.length ≤ 1048576) (hw : WF E) : Ev (fun k => spec_BlockCuts.f k n E) (blockCuts n E) := by
  simp only [spec_BlockCuts.f]
  refine Ev.bind0 rfl (Ev.bind (ev_spec_NetOk n E hE hw) ?_)
  unfold blockCuts
  by_cases h : OK n E
  · rw [if_pos h]
    refine Ev.pos (dec_t h) (Ev.cast (ev_spec_BlockCuts_loop h n.toNat 0 [] (by omega) (by have := h.n0; omega) (by simp)) ?_)
    unfold cutsFrom cutsL
    rw [ksFrom_zero]; rfl
  · rw [if_neg h]
    exact Ev.neg (by rw [dec_f h]; simp) (Ev.now _)
theorem ev_impl_BlockCuts (n : Int) (E : List T) (hE : E.length ≤ 1048576) : Ev (fun k => impl_BlockCuts.f k n E) (blockCuts n E) := by
  simp only [impl_BlockCuts.f]
  refine Ev.bind0 rfl (Ev.bind (ev_impl_NetOk n E hE) ?_)
  unfold blockCuts
  by_cases h : OK n E
  · rw [if_pos h]
    refine Ev.pos (dec_t h) (Ev.cast (ev_impl_BlockCuts_loop h n.toNat 0 [] (by omega) (by have := h.n0; omega) (by simp)) ?_)
    unfold cutsFrom cutsL
    rw [ksFrom_zero]; rfl
  · rw [if_neg h]
    exact Ev.neg (by rw [dec_f h]; simp) (Ev.now _)
theorem cutsL_length {n : Int} {E : List T} : (cutsL n E).length ≤ n.toNat := by
  have := List.length_filter_le (fun v => dec (CutK n E v)) (ks n)
  rw [ks_length] at this
  exact this
theorem blockCuts_length (n : Int) (E : List T) : (blockCuts n E).length ≤ 8 := by
  unfold blockCuts
  split
  · next h => have := cutsL_length (n := n) (E := E); have := h.n8; omega
  · simp
end Go.Proofs.Ytdlnnjgjfngccaa.Th
