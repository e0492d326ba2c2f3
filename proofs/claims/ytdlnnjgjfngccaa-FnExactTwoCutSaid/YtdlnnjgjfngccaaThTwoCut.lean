/-
TwoCut: the least knot that parts two others that hang together and are not tied.
-/
import Derived.Test.YtdlnnjgjfngccaaThReach
import Derived.Test.YtdlnnjgjfngccaaThParts
import Derived.Test.YtdlnnjgjfngccaaThWithout
import Derived.Test.YtdlnnjgjfngccaaF30
import Derived.Test.YtdlnnjgjfngccaaF10
namespace Go.Proofs.Ytdlnnjgjfngccaa.Th
open Go.RowKit Go.Proofs.YtdlnnjgjfngccaaW.PrintWords Go.Proofs.YtdlnnjgjfngccaaW.PrintLast Go.Proofs.YtdlnnjgjfngccaaW.PrintMore Go.Proofs.Ytdlnnjgjfngccaa.F

/-- It parts the two. -/
def Cuts (E : List T) (a b v : Int) : Prop := v ≠ a ∧ v ≠ b ∧ ¬ Conn (lessK E v) a b
noncomputable def firstCut (n : Int) (E : List T) (a b : Int) (i : Int) : Int × Bool := match (ksFrom n i).find? (fun v => dec (Cuts E a b v)) with | some v => (v, true) | none => (0, false)
/-- Two different knots of a valid net. -/
def Two2 (n : Int) (E : List T) (a b : Int) : Prop := OK n E ∧ In n a ∧ In n b ∧ a ≠ b
def TwoCutAsk (n : Int) (E : List T) (a b : Int) : Prop := Two2 n E a b ∧ Conn E a b ∧ ¬ Has E a b
noncomputable def twoCut (n : Int) (E : List T) (a b : Int) : Int × Bool := @ite _ (TwoCutAsk n E a b) (Classical.propDecidable _) (firstCut n E a b 0) (0, false)
theorem firstCut_step {n : Int} {E : List T} {a b i : Int} (h0 : 0 ≤ i) (h : i < n) : firstCut n E a b i = if dec (Cuts E a b i) = true then (i, true) else firstCut n E a b (i + 1) := by
  unfold firstCut
  rw [ksFrom_cons h0 h, List.find?_cons]
  cases dec (Cuts E a b i) <;> rfl
theorem firstCut_end {n : Int} {E : List T} {a b i : Int} (h : n ≤ i) : firstCut n E a b i = (0, false) := by
  unfold firstCut
  rw [ksFrom_end h]; rfl
theorem ev_spec_TwoCut_loop {n : Int} {E : List T} {a b : Int} (h : OK n E) (ha : In n a) (hb : In n b) : ∀ (d : Nat) (i : Int), 0 ≤ i → i + d = n → Ev (fun k => spec_TwoCut.l0 k a b i n E) (firstCut n E a b i)
  | 0, i, h0, hd => by
    refine Ev.succ ?_
    simp only [spec_TwoCut.l0]
    exact Ev.neg (by omega) (Ev.some_ (firstCut_end (by omega)).symm)
  | d + 1, i, h0, hd => by
    have h8 := h.n8
    have hr := ev_spec_TwoCut_loop h ha hb d (i + 1) (by omega) (by omega)
    refine Ev.succ ?_
    simp only [spec_TwoCut.l0]
    rw [w64 (by omega), firstCut_step h0 (by omega)]
    refine Ev.pos (by omega) ?_
    by_cases e1 : i = a
    · refine Ev.pos e1 ?_
      rw [dec_f (fun k => k.1 e1)]
      exact hr
    · refine Ev.neg e1 ?_
      by_cases e2 : i = b
      · refine Ev.pos e2 ?_
        rw [dec_f (fun k => k.2.1 e2)]
        exact hr
      · refine Ev.neg e2 (Ev.bind (ev_spec_NetWithout h ⟨h0, by omega⟩) (Ev.bind (ev_spec_WayReach (h.less _) ha) (Ev.pos hb.1 (Ev.pos ?_ ?_))))
        · rw [reachL_length]; have := hb.1; have := hb.2; omega
        · rw [rd_reachL _ _ hb]
          by_cases hc : Conn (lessK E i) a b
          · refine Ev.pos (dec_t hc) ?_
            rw [dec_f (fun k => k.2.2 hc)]
            exact hr
          · refine Ev.neg (by rw [dec_f hc]; simp) ?_
            rw [dec_t ⟨e1, e2, hc⟩]
            exact Ev.now _
theorem ev_impl_TwoCut_loop {n : Int} {E : List T} {a b : Int} (h : OK n E) (ha : In n a) (hb : In n b) : ∀ (d : Nat) (i : Int), 0 ≤ i → i + d = n → Ev (fun k => impl_TwoCut.l0 k a b n i n E) (firstCut n E a b i)
  | 0, i, h0, hd => by
    refine Ev.succ ?_
    simp only [impl_TwoCut.l0]
    exact Ev.neg (by omega) (Ev.some_ (firstCut_end (by omega)).symm)
  | d + 1, i, h0, hd => by
    have h8 := h.n8
    have hr := ev_impl_TwoCut_loop h ha hb d (i + 1) (by omega) (by omega)
    refine Ev.succ ?_
    simp only [impl_TwoCut.l0]
    rw [w64 (by omega), firstCut_step h0 (by omega)]
    refine Ev.pos (by omega) ?_
    by_cases e1 : i = a
    · refine Ev.pos e1 ?_
      rw [dec_f (fun k => k.1 e1)]
      exact hr
    · refine Ev.neg e1 ?_
      by_cases e2 : i = b
      · refine Ev.pos e2 ?_
        rw [dec_f (fun k => k.2.1 e2)]
        exact hr
      · refine Ev.neg e2 (Ev.bind (ev_without h) (Ev.bind (ev_joined (h.less _) ha hb) ?_))
        by_cases hc : Conn (lessK E i) a b
        · refine Ev.pos (dec_t hc) ?_
          rw [dec_f (fun k => k.2.2 hc)]
          exact hr
        · refine Ev.neg (by rw [dec_f hc]; simp) ?_
          rw [dec_t ⟨e1, e2, hc⟩]
          exact Ev.now _
theorem ev_twoKnots (n : Int) (E : List T) (a b : Int) (hE : E.length ≤ 1048576) : Ev (fun k => impl_twoKnots.f k n E a b) (dec (Two2 n E a b)) := by
  simp only [impl_twoKnots.f]
  refine Ev.bind (ev_impl_NetOk n E hE) ?_
  by_cases h : OK n E
  · refine Ev.pos (dec_t h) (Ev.bind0 (knot_eq n E a) ?_)
    by_cases ha : In n a
    · refine Ev.pos (dec_t ha) (Ev.bind0 (knot_eq n E b) ?_)
      by_cases hb : In n b
      · refine Ev.pos (dec_t hb) (Ev.some_ (dec_of ?_))
        rw [bne_iff_ne]
        exact ⟨fun k => ⟨h, ha, hb, k⟩, fun k => k.2.2.2⟩
      · exact Ev.neg (by rw [dec_f hb]; simp) (Ev.ff (fun k => hb k.2.2.1) (Ev.now _))
    · exact Ev.neg (by rw [dec_f ha]; simp) (Ev.ff (fun k => ha k.2.1) (Ev.now _))
  · exact Ev.neg (by rw [dec_f h]; simp) (Ev.ff (fun k => h k.1) (Ev.now _))
theorem ev_spec_TwoCut (n : Int) (E : List T) (a b : Int) (hE : E.length ≤ 1048576) (hw : WF E) : Ev (fun k => spec_TwoCut.f k n E a b) (twoCut n E a b) := by
  have no : ¬ TwoCutAsk n E a b → Ev (fun k => spec_TwoCut.j0 k a b true n E) (twoCut n E a b) := fun hq => by
    refine Ev.succ ?_
    simp only [spec_TwoCut.j0]
    refine Ev.pos trivial (Ev.some_ ?_)
    unfold twoCut; rw [if_neg hq]
  simp only [spec_TwoCut.f]
  refine Ev.bind (ev_l1Knot n E a hE hw) ?_
  by_cases ha : OK n E ∧ In n a
  · refine Ev.pos (dec_t ha) (Ev.bind (ev_l1Knot n E b hE hw) ?_)
    by_cases hb : OK n E ∧ In n b
    · refine Ev.pos (dec_t hb) ?_
      by_cases e : a = b
      · exact Ev.pos e (no (fun k => k.1.2.2.2 e))
      · refine Ev.neg e (Ev.bind (ev_spec_NetHas n E a b hE hw) ?_)
        by_cases hh : Has E a b
        · exact Ev.pos (dec_t ⟨ha.1, hh⟩) (no (fun k => k.2.2 hh))
        · refine Ev.neg (by rw [dec_f (fun k => hh k.2)]; simp) (Ev.bind (ev_spec_WayReach ha.1 ha.2) (Ev.pos hb.2.1 (Ev.pos ?_ ?_)))
          · rw [reachL_length]; have := hb.2.1; have := hb.2.2; omega
          · rw [rd_reachL _ _ hb.2]
            by_cases hc : Conn E a b
            · rw [dec_t hc]
              refine Ev.succ ?_
              simp only [spec_TwoCut.j0]
              refine Ev.neg (by simp) ?_
              unfold twoCut
              rw [if_pos ⟨⟨ha.1, ha.2, hb.2, e⟩, hc, hh⟩]
              exact ev_spec_TwoCut_loop ha.1 ha.2 hb.2 n.toNat 0 (by omega) (by have := ha.1.n0; omega)
            · rw [dec_f hc]
              exact no (fun k => hc k.2.1)
    · exact Ev.neg (by rw [dec_f hb]; simp) (no (fun k => hb ⟨k.1.1, k.1.2.2.1⟩))
  · exact Ev.neg (by rw [dec_f ha]; simp) (no (fun k => ha ⟨k.1.1, k.1.2.1⟩))
theorem ev_impl_TwoCut (n : Int) (E : List T) (a b : Int) (hE : E.length ≤ 1048576) : Ev (fun k => impl_TwoCut.f k n E a b) (twoCut n E a b) := by
  have no : ¬ TwoCutAsk n E a b → Ev (fun k => impl_TwoCut.j0 k a b true n E) (twoCut n E a b) := fun hq => by
    refine Ev.succ ?_
    simp only [impl_TwoCut.j0]
    refine Ev.pos trivial (Ev.some_ ?_)
    unfold twoCut; rw [if_neg hq]
  simp only [impl_TwoCut.f]
  refine Ev.bind (ev_twoKnots n E a b hE) ?_
  by_cases h2 : Two2 n E a b
  · refine Ev.pos (dec_t h2) (Ev.bind (ev_joined h2.1 h2.2.1 h2.2.2.1) ?_)
    by_cases hc : Conn E a b
    · refine Ev.pos (dec_t hc) (Ev.bind (ev_has n E a b hE) ?_)
      by_cases hh : Has E a b
      · rw [dec_t hh]; exact no (fun k => k.2.2 hh)
      · rw [dec_f hh]
        refine Ev.succ ?_
        simp only [impl_TwoCut.j0]
        refine Ev.neg (by simp) ?_
        unfold twoCut
        rw [if_pos ⟨h2, hc, hh⟩]
        exact ev_impl_TwoCut_loop h2.1 h2.2.1 h2.2.2.1 n.toNat 0 (by omega) (by have := h2.1.n0; omega)
    · exact Ev.neg (by rw [dec_f hc]; simp) (no (fun k => hc k.2.1))
  · exact Ev.neg (by rw [dec_f h2]; simp) (no (fun k => h2 k.1))
end Go.Proofs.Ytdlnnjgjfngccaa.Th
