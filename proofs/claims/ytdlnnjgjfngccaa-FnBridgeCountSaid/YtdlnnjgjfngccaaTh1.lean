/-
Nets: when one is valid; that the program's NetOk and the reference's both answer just this; the tie of two knots; whether two knots are tied.
-/
import Derived.Test.YtdlnnjgjfngccaaThEv
import Derived.Test.YtdlnnjgjfngccaaF14
import Derived.Test.YtdlnnjgjfngccaaF8
import Derived.Test.YtdlnnjgjfngccaaF19
import Derived.Test.YtdlnnjgjfngccaaF17
import Derived.Test.YtdlnnjgjfngccaaF9
import Derived.Test.YtdlnnjgjfngccaaF20
namespace Go.Proofs.Ytdlnnjgjfngccaa.Th
open Go.RowKit Go.Proofs.YtdlnnjgjfngccaaW.PrintWords Go.Proofs.YtdlnnjgjfngccaaW.PrintMore Go.Proofs.Ytdlnnjgjfngccaa.F

abbrev T := S73
theorem T.ext {s t : T} (h0 : s.f0 = t.f0) (h1 : s.f1 = t.f1) : s = t := by cases s; cases t; simp_all
instance : DecidableEq T := fun a b => decidable_of_iff (a.f0 = b.f0 ∧ a.f1 = b.f1) ⟨fun h => T.ext h.1 h.2, fun h => by subst h; exact ⟨rfl, rfl⟩⟩
instance : Inhabited T := ⟨⟨0, 0⟩⟩

/-- The order of ties. -/
def lt (s t : T) : Prop := s.f0 < t.f0 ∨ s.f0 = t.f0 ∧ s.f1 < t.f1
instance (s t : T) : Decidable (lt s t) := inferInstanceAs (Decidable (_ ∨ _))
theorem lt_irrefl (s : T) : ¬ lt s s := by unfold lt; omega
theorem lt_trans {s t u : T} (h : lt s t) (k : lt t u) : lt s u := by unfold lt at *; omega
theorem lt_asymm {s t : T} (h : lt s t) : ¬ lt t s := by unfold lt at *; omega
theorem lt_tri (s t : T) : lt s t ∨ s = t ∨ lt t s := by
  by_cases h : s.f0 = t.f0 <;> by_cases k : s.f1 = t.f1
  · exact Or.inr (Or.inl (T.ext h k))
  · unfold lt; omega
  · unfold lt; omega
  · unfold lt; omega

/-- Strictly ascending. -/
def Asc (E : List T) : Prop := E.Pairwise lt
/-- Neighbours ascend. -/
def AscN : List T → Bool
  | [] => true
  | [_] => true
  | s :: t :: r => decide (lt s t) && AscN (t :: r)
theorem ascN_iff : ∀ E : List T, AscN E = true ↔ Asc E
  | [] => by simp [AscN, Asc]
  | [_] => by simp [AscN, Asc]
  | s :: t :: r => by
    have ih := ascN_iff (t :: r)
    simp only [AscN, Bool.and_eq_true, decide_eq_true_eq, ih, Asc, List.pairwise_cons]
    constructor
    · rintro ⟨h, k, m⟩
      refine ⟨fun u hu => ?_, k, m⟩
      rcases List.mem_cons.1 hu with rfl | hu
      · exact h
      · exact lt_trans h (k u hu)
    · rintro ⟨h, k⟩
      exact ⟨h t (by simp), k⟩

/-- A valid net of n knots. -/
structure OK (n : Int) (E : List T) : Prop where
  n0 : 0 ≤ n
  n8 : n ≤ 8
  tie : ∀ t ∈ E, 0 ≤ t.f0 ∧ t.f0 < t.f1 ∧ t.f1 < n
  asc : Asc E

theorem rd_T_nat (E : List T) (i : Nat) (h : i < E.length) : rd_T73 E i = E[i] := by
  simp [rd_T73, List.getD_eq_getElem?_getD, List.getElem?_eq_getElem h]

/-- How many ties there can be. -/
theorem asc_length (E : List T) (h : Asc E) : ∀ m : Nat, (∀ t ∈ E, 0 ≤ t.f0 * 8 + t.f1 ∧ t.f1 < 8 ∧ 0 ≤ t.f1 ∧ t.f0 * 8 + t.f1 < m) → E.length ≤ m := by
  -- the numbers 8 a + b ascend
  have key : ∀ (E : List T), Asc E → ∀ lo m : Int, lo ≤ m → (∀ t ∈ E, lo ≤ t.f0 * 8 + t.f1 ∧ t.f1 < 8 ∧ 0 ≤ t.f1 ∧ t.f0 * 8 + t.f1 < m) → (E.length : Int) ≤ m - lo := by
    intro E
    induction E with
    | nil => intro _ lo m h _; simp; omega
    | cons s r ih =>
      intro ha lo m hlm hb
      have hs := hb s (by simp)
      have := ih (List.Pairwise.of_cons ha) (s.f0 * 8 + s.f1 + 1) m (by omega) (fun t ht => by
        have h1 := (List.pairwise_cons.1 ha).1 t ht
        have h2 := hb t (by simp [ht])
        unfold lt at h1
        omega)
      simp only [List.length_cons]
      omega
  intro m hb
  have := key E h 0 m (by omega) (fun t ht => by have := hb t ht; omega)
  omega
theorem OK.length {n : Int} {E : List T} (h : OK n E) : E.length ≤ 64 := by
  refine asc_length E h.asc 64 (fun t ht => ?_)
  have := h.tie t ht
  have := h.n8
  omega

/-! ### the reference's NetOk -/
theorem l6In (a b c : Int) : spec_l6In.f a b c = some (decide (b ≤ a ∧ a ≤ c)) := by
  unfold spec_l6In.f
  by_cases h : a ≥ b
  · rw [if_pos h]; congr 1; exact decide_eq_decide.2 (by omega)
  · rw [if_neg h]; congr 1; symm; exact decide_eq_false (by omega)
theorem l1Less (s t : T) : spec_l1Less.f s.f0 s.f1 t.f0 t.f1 = some (decide (lt s t)) := by
  unfold spec_l1Less.f lt
  by_cases h : s.f0 < t.f0
  · rw [if_pos h]; congr 1; symm; exact decide_eq_true (by omega)
  · rw [if_neg h]
    by_cases k : s.f0 = t.f0
    · rw [if_pos k]; congr 1; exact decide_eq_decide.2 (by omega)
    · rw [if_neg k]; congr 1; symm; exact decide_eq_false (by omega)
/-- What a round asks of the tie at i. -/
def okAt (n : Int) (E : List T) (i : Nat) : Bool :=
  match E[i]? with
  | none => true
  | some t => decide (0 ≤ t.f0 ∧ t.f0 ≤ n - 1) && decide (t.f0 + 1 ≤ t.f1 ∧ t.f1 ≤ n - 1) && (match i with | 0 => true | j + 1 => match E[j]? with | none => true | some s => decide (lt s t))
theorem ev_spec_NetOk_loop (n : Int) (E : List T) (hn : 0 ≤ n ∧ n ≤ 8) (hE : E.length ≤ 64) (hw : ∀ t ∈ E, (-9223372036854775808 ≤ t.f0 ∧ t.f0 ≤ 9223372036854775807)) :
    ∀ (d i : Nat), i + d = E.length → Ev (fun k => spec_NetOk.l0 k i n E) ((List.range' i d).all (okAt n E))
  | 0, i, h => by
    refine Ev.succ ?_
    simp only [spec_NetOk.l0]
    refine Ev.neg (by omega) ?_
    exact Ev.some_ (by simp)
  | d + 1, i, h => by
    have hi : i < E.length := by omega
    have hE' : E[i]? = some E[i] := List.getElem?_eq_getElem hi
    refine Ev.succ ?_
    simp only [spec_NetOk.l0, rd_T_nat E i hi]
    refine Ev.pos (by omega) (Ev.pos (by omega) ?_)
    rw [w64 (x := n - 1) (by omega)]
    refine Ev.bind0 (l6In _ _ _) ?_
    simp only [List.range'_succ, List.all_cons]
    by_cases h1 : 0 ≤ E[i].f0 ∧ E[i].f0 ≤ n - 1
    · refine Ev.pos (decide_eq_true h1) ?_
      have h2 := hw E[i] (List.getElem_mem hi)
      rw [w64 (x := E[i].f0 + 1) (by omega)]
      refine Ev.bind0 (l6In _ _ _) ?_
      by_cases h3 : E[i].f0 + 1 ≤ E[i].f1 ∧ E[i].f1 ≤ n - 1
      · refine Ev.pos (decide_eq_true h3) ?_
        have hrec := ev_spec_NetOk_loop n E hn hE hw d (i + 1) (by omega)
        cases i with
        | zero =>
          refine Ev.neg (by omega) ?_
          rw [w64 (by omega)]
          refine Ev.cast hrec ?_
          simp [okAt, hE', h1, h3]
        | succ j =>
          refine Ev.pos (by omega) ?_
          have hj : wrap64 (((j + 1 : Nat) : Int) - 1) = (j : Int) := by rw [w64 (by omega)]; omega
          rw [hj]
          refine Ev.pos (by omega) (Ev.pos (by omega) ?_)
          rw [rd_T_nat E j (by omega)]
          refine Ev.bind0 (l1Less _ _) ?_
          have hEj : E[j]? = some (E[j]'(by omega)) := List.getElem?_eq_getElem (by omega)
          by_cases h4 : lt (E[j]'(by omega)) E[j + 1]
          · refine Ev.pos (decide_eq_true h4) ?_
            rw [w64 (by omega)]
            refine Ev.cast hrec ?_
            simp [okAt, hE', hEj, h1, h3, h4]
          · refine Ev.neg (by simp [h4]) ?_
            exact Ev.some_ (by simp [okAt, hE', hEj, h4])
      · refine Ev.neg (by simp [h3]) ?_
        refine Ev.some_ ?_
        simp only [okAt, hE', decide_eq_false h3, Bool.and_false, Bool.false_and]
    · refine Ev.neg (by simp only [decide_eq_true_eq]; exact h1) ?_
      refine Ev.some_ ?_
      simp only [okAt, hE', decide_eq_false h1, Bool.false_and]

theorem okAt_iff (n : Int) (E : List T) (hn : 0 ≤ n ∧ n ≤ 8) : (List.range' 0 E.length).all (okAt n E) = true ↔ OK n E := by
  rw [List.all_eq_true]
  have hr : ∀ i, i ∈ List.range' 0 E.length ↔ i < E.length := fun i => by simp [List.mem_range']
  constructor
  · intro h
    refine ⟨hn.1, hn.2, fun t ht => ?_, ?_⟩
    · obtain ⟨i, hi, rfl⟩ := List.mem_iff_getElem.1 ht
      have := h i ((hr i).2 hi)
      simp only [okAt, List.getElem?_eq_getElem hi, Bool.and_eq_true, decide_eq_true_eq] at this
      omega
    · refine List.pairwise_iff_getElem.2 ?_
      -- neighbours ascend, so all do
      have nb : ∀ j, (hj : j + 1 < E.length) → lt (E[j]'(by omega)) E[j + 1] := fun j hj => by
        have := h (j + 1) ((hr _).2 hj)
        simp only [okAt, List.getElem?_eq_getElem hj, List.getElem?_eq_getElem (show j < E.length by omega), Bool.and_eq_true, decide_eq_true_eq] at this
        exact this.2
      intro i j hi hj hij
      induction j with
      | zero => omega
      | succ j ih =>
        by_cases e : i = j
        · subst e; exact nb i hj
        · exact lt_trans (ih (by omega) (by omega)) (nb j hj)
  · intro h i hi
    rw [hr] at hi
    have h1 := h.tie E[i] (List.getElem_mem hi)
    simp only [okAt, List.getElem?_eq_getElem hi, Bool.and_eq_true, decide_eq_true_eq]
    refine ⟨⟨by omega, by omega⟩, ?_⟩
    cases i with
    | zero => rfl
    | succ j =>
      simp only [List.getElem?_eq_getElem (show j < E.length by omega), decide_eq_true_eq]
      exact List.pairwise_iff_getElem.1 h.asc j (j + 1) (by omega) hi (by omega)

/-- Numbers that a machine's word holds. -/
def WF (E : List T) : Prop := ∀ t ∈ E, (-9223372036854775808 ≤ t.f0 ∧ t.f0 ≤ 9223372036854775807) ∧ (-9223372036854775808 ≤ t.f1 ∧ t.f1 ≤ 9223372036854775807)
theorem OK.wf {n : Int} {E : List T} (h : OK n E) : WF E := fun t ht => by have := h.tie t ht; have := h.n8; omega

theorem ev_spec_NetOk (n : Int) (E : List T) (hE : E.length ≤ 1048576) (hw : WF E) : Ev (fun k => spec_NetOk.f k n E) (dec (OK n E)) := by
  simp only [spec_NetOk.f]
  refine Ev.bind0 (l6In _ _ _) ?_
  by_cases hn : 0 ≤ n ∧ n ≤ 8
  · refine Ev.pos (decide_eq_true hn) ?_
    refine Ev.succ ?_
    simp only [spec_NetOk.j0]
    by_cases hl : (E.length : Int) > 64
    · refine Ev.pos (decide_eq_true hl) ?_
      exact Ev.ff (fun h => by have := h.length; omega) (Ev.now _)
    · refine Ev.neg (by simp only [decide_eq_true_eq]; exact hl) ?_
      exact Ev.dec (ev_spec_NetOk_loop n E hn (by omega) (fun t ht => (hw t ht).1) E.length 0 (by omega)) (okAt_iff n E hn)
  · refine Ev.neg (by simp only [decide_eq_true_eq]; exact hn) ?_
    refine Ev.succ ?_
    simp only [spec_NetOk.j0]
    refine Ev.pos trivial ?_
    exact Ev.ff (fun h => hn ⟨h.n0, h.n8⟩) (Ev.now _)

/-! ### the program's NetOk -/
theorem compare (a b : Int) : cmp_Compare_int.f a b = some (if a < b then -1 else if a > b then 1 else 0) := by
  unfold cmp_Compare_int.f cmp_isNaN_int.f
  simp only [bne_self_eq_false, Option.bind_some]
  rw [if_neg (by decide), if_neg (by decide)]
  split
  · rfl
  · split <;> rfl
theorem ev_or2 (x y : Int) : Ev (fun k => cmp_Or_int.f k [x, y]) (if x = 0 then y else x) := by
  simp only [cmp_Or_int.f]
  refine Ev.succ ?_
  simp only [cmp_Or_int.l0, List.length_cons, List.length_nil]
  refine Ev.pos (by decide) (Ev.pos (by decide) (Ev.pos (by simp) ?_))
  have r0 : rd [x, y] 0 = x := rfl
  rw [r0]
  by_cases h : x = 0
  · refine Ev.pos h ?_
    rw [if_pos h]
    refine Ev.succ ?_
    simp only [cmp_Or_int.l0]
    rw [show wrap64 (0 + 1) = 1 from by unfold wrap64; omega]
    refine Ev.pos (by decide) (Ev.pos (by decide) (Ev.pos (by simp) ?_))
    have r1 : rd [x, y] 1 = y := rfl
    rw [r1]
    by_cases k : y = 0
    · refine Ev.pos k ?_
      refine Ev.succ ?_
      simp only [cmp_Or_int.l0]
      rw [show wrap64 (1 + 1) = 2 from by unfold wrap64; omega]
      refine Ev.neg (by decide) ?_
      exact Ev.some_ k.symm
    · exact Ev.neg k (Ev.now _)
  · refine Ev.neg h ?_
    rw [if_neg h]
    exact Ev.now _
theorem ev_tieOrder (s t : T) : ∃ c : Int, Ev (fun k => impl_tieOrder.f k s.f0 s.f1 t.f0 t.f1) c ∧ (c < 0 ↔ lt s t) := by
  refine ⟨if (if s.f0 < t.f0 then (-1 : Int) else if s.f0 > t.f0 then 1 else 0) = 0 then (if s.f1 < t.f1 then -1 else if s.f1 > t.f1 then 1 else 0) else (if s.f0 < t.f0 then -1 else if s.f0 > t.f0 then 1 else 0), ?_, ?_⟩
  · simp only [impl_tieOrder.f]
    refine Ev.bind0 (compare _ _) (Ev.bind0 (compare _ _) (Ev.bind (ev_or2 _ _) ?_))
    exact Ev.now _
  · unfold lt
    by_cases h1 : s.f0 < t.f0
    · simp only [if_pos h1]
      rw [if_neg (by omega)]
      omega
    · by_cases h2 : s.f0 > t.f0
      · simp only [if_neg h1, if_pos h2]
        rw [if_neg (by omega)]
        omega
      · simp only [if_neg h1, if_neg h2]
        rw [if_pos trivial]
        split
        · omega
        · split <;> omega
theorem ev_ascending_loop (E : List T) (hE : E.length ≤ 1048576) : ∀ (d i : Nat), 0 < i → i + d = E.length → Ev (fun k => impl_ascending.l0 k E i) (AscN (E.drop (i - 1)))
  | 0, i, h0, h => by
    refine Ev.succ ?_
    simp only [impl_ascending.l0]
    refine Ev.neg (by omega) ?_
    refine Ev.some_ ?_
    have : E.drop (i - 1) = [E[i - 1]'(by omega)] := by
      rw [List.drop_eq_getElem_cons (by omega), List.drop_of_length_le (by omega)]
    rw [this]; rfl
  | d + 1, i, h0, h => by
    obtain ⟨j, rfl⟩ : ∃ j, i = j + 1 := ⟨i - 1, by omega⟩
    have hj : j < E.length := by omega
    have hj1 : j + 1 < E.length := by omega
    refine Ev.succ ?_
    simp only [impl_ascending.l0]
    have hw : wrap64 (((j + 1 : Nat) : Int) - 1) = (j : Int) := by rw [w64 (by omega)]; omega
    rw [hw]
    refine Ev.pos (by omega) (Ev.pos (by omega) (Ev.pos (by omega) (Ev.pos (by omega) ?_)))
    rw [rd_T_nat E j hj, rd_T_nat E (j + 1) hj1]
    obtain ⟨c, hc, hlt⟩ := ev_tieOrder E[j] E[j + 1]
    refine Ev.bind hc ?_
    have hd : E.drop (j + 1 - 1) = E[j] :: E[j + 1] :: E.drop (j + 2) := by
      rw [Nat.add_sub_cancel, List.drop_eq_getElem_cons hj, List.drop_eq_getElem_cons hj1]
    rw [hd]
    simp only [AscN]
    by_cases h4 : c ≥ 0
    · refine Ev.pos h4 (Ev.some_ ?_)
      rw [decide_eq_false (fun k => by have := hlt.2 k; omega)]
      rfl
    · refine Ev.neg h4 ?_
      rw [w64 (by omega)]
      refine Ev.cast (ev_ascending_loop E hE d (j + 2) (by omega) (by omega)) ?_
      rw [decide_eq_true (hlt.1 (by omega)), show j + 2 - 1 = j + 1 from rfl, List.drop_eq_getElem_cons hj1]
      simp
theorem ev_ascending (E : List T) (hE : E.length ≤ 1048576) : Ev (fun k => impl_ascending.f k E) (dec (Asc E)) := by
  simp only [impl_ascending.f]
  rw [← dec_of (ascN_iff E)]
  by_cases h : E.length = 0
  · refine Ev.succ ?_
    simp only [impl_ascending.l0]
    refine Ev.neg (by omega) ?_
    have : E = [] := List.length_eq_zero_iff.1 h
    subst this
    exact Ev.now _
  · have := ev_ascending_loop E hE (E.length - 1) 1 (by omega) (by omega)
    simpa using this
theorem ev_impl_NetOk_loop (n : Int) (E : List T) (hE : E.length ≤ 1048576) : ∀ (d i : Nat), i + d = E.length →
    Ev (fun k => impl_NetOk.l0 k E E.length i n E) (dec ((∀ t ∈ E.drop i, 0 ≤ t.f0 ∧ t.f0 < t.f1 ∧ t.f1 < n) ∧ Asc E))
  | 0, i, h => by
    refine Ev.succ ?_
    simp only [impl_NetOk.l0]
    refine Ev.neg (by omega) ?_
    refine Ev.bind (ev_ascending E hE) ?_
    refine Ev.some_ (dec_congr ?_)
    rw [List.drop_of_length_le (by omega)]
    simp
  | d + 1, i, h => by
    have hi : i < E.length := by omega
    refine Ev.succ ?_
    simp only [impl_NetOk.l0, rd_T_nat E i hi]
    refine Ev.pos (by omega) (Ev.pos (by omega) (Ev.pos (by omega) ?_))
    rw [List.drop_eq_getElem_cons hi]
    by_cases h1 : E[i].f0 < 0
    · exact Ev.pos h1 (Ev.ff (fun a => by have := a.1 E[i] List.mem_cons_self; omega) (Ev.now _))
    · refine Ev.neg h1 ?_
      by_cases h2 : E[i].f0 ≥ E[i].f1
      · exact Ev.pos h2 (Ev.ff (fun a => by have := a.1 E[i] List.mem_cons_self; omega) (Ev.now _))
      · refine Ev.neg h2 ?_
        by_cases h3 : E[i].f1 ≥ n
        · exact Ev.pos h3 (Ev.ff (fun a => by have := a.1 E[i] List.mem_cons_self; omega) (Ev.now _))
        · refine Ev.neg h3 ?_
          rw [w64 (by omega)]
          refine Ev.cast (ev_impl_NetOk_loop n E hE d (i + 1) (by omega)) (dec_congr ?_)
          simp only [List.forall_mem_cons]
          exact ⟨fun a => ⟨⟨by omega, a.1⟩, a.2⟩, fun a => ⟨a.1.2, a.2⟩⟩
theorem ev_impl_NetOk (n : Int) (E : List T) (hE : E.length ≤ 1048576) : Ev (fun k => impl_NetOk.f k n E) (dec (OK n E)) := by
  simp only [impl_NetOk.f]
  by_cases h0 : n < 0
  · refine Ev.pos h0 (Ev.succ ?_)
    simp only [impl_NetOk.j0]
    exact Ev.pos trivial (Ev.ff (fun h => by have := h.n0; omega) (Ev.now _))
  · refine Ev.neg h0 (Ev.succ ?_)
    simp only [impl_NetOk.j0]
    by_cases h8 : n > 8
    · exact Ev.pos (decide_eq_true h8) (Ev.ff (fun h => by have := h.n8; omega) (Ev.now _))
    · refine Ev.neg (by simp only [decide_eq_true_eq]; exact h8) ?_
      refine Ev.cast (ev_impl_NetOk_loop n E hE E.length 0 (by omega)) (dec_congr ?_)
      rw [List.drop_zero]
      exact ⟨fun h => ⟨by omega, by omega, h.1, h.2⟩, fun h => ⟨h.tie, h.asc⟩⟩

/-! ### the tie of two knots; are they tied -/
def tie (a b : Int) : T := if a < b then ⟨a, b⟩ else ⟨b, a⟩
theorem tie_comm (a b : Int) : tie a b = tie b a := by
  unfold tie
  by_cases h : a < b
  · rw [if_pos h, if_neg (by omega)]
  · by_cases k : b < a
    · rw [if_neg h, if_pos k]
    · have : a = b := by omega
      subst this; rfl
theorem l1Tie (a b : Int) : spec_l1Tie.f a b = some ((tie a b).f0, (tie a b).f1) := by
  unfold spec_l1Tie.f tie
  split <;> rfl
def Has (E : List T) (a b : Int) : Prop := tie a b ∈ E
theorem Has.symm {E : List T} {a b : Int} (h : Has E a b) : Has E b a := by unfold Has at *; rw [tie_comm]; exact h
theorem ev_l1Has_loop (n : Int) (E : List T) (a b : Int) (hE : E.length ≤ 1048576) : ∀ (d i : Nat), i + d = E.length → Ev (fun k => spec_l1Has.l0 k a b i n E) (dec (tie a b ∈ E.drop i))
  | 0, i, h => by
    refine Ev.succ ?_
    simp only [spec_l1Has.l0]
    refine Ev.neg (by omega) (Ev.ff ?_ (Ev.now _))
    rw [List.drop_of_length_le (by omega)]; simp
  | d + 1, i, h => by
    have hi : i < E.length := by omega
    refine Ev.succ ?_
    simp only [spec_l1Has.l0, rd_T_nat E i hi]
    refine Ev.pos (by omega) (Ev.pos (by omega) (Ev.bind0 (l1Tie a b) ?_))
    rw [List.drop_eq_getElem_cons hi]
    by_cases e : E[i] = tie a b
    · exact Ev.pos (by rw [e]; simp) (Ev.tt (by rw [e]; exact List.mem_cons_self) (Ev.now _))
    · refine Ev.neg (fun k => e ?_) ?_
      · simp only [Bool.and_eq_true, beq_iff_eq] at k
        exact T.ext k.1 k.2
      · rw [w64 (by omega)]
        refine Ev.cast (ev_l1Has_loop n E a b hE d (i + 1) (by omega)) (dec_congr ?_)
        rw [List.mem_cons]
        exact ⟨Or.inr, fun k => k.resolve_left (fun x => e x.symm)⟩
theorem ev_l1Has (n : Int) (E : List T) (a b : Int) (hE : E.length ≤ 1048576) : Ev (fun k => spec_l1Has.f k n E a b) (dec (Has E a b)) := by
  simp only [spec_l1Has.f]
  exact ev_l1Has_loop n E a b hE E.length 0 (by omega)
/-- A knot of a net. -/
def In (n k : Int) : Prop := 0 ≤ k ∧ k < n
instance (n k : Int) : Decidable (In n k) := inferInstanceAs (Decidable (_ ∧ _))
theorem knot_eq (n : Int) (E : List T) (a : Int) : impl_Net_knot.f n E a = some (dec (In n a)) := by
  unfold impl_Net_knot.f
  by_cases h : a ≥ 0
  · rw [if_pos h]; congr 1; exact dec_of (by unfold In; rw [decide_eq_true_iff]; omega)
  · rw [if_neg h]; congr 1; exact (dec_f (by unfold In; omega)).symm
theorem ev_l1Knot (n : Int) (E : List T) (a : Int) (hE : E.length ≤ 1048576) (hw : WF E) : Ev (fun k => spec_l1Knot.f k n E a) (dec (OK n E ∧ In n a)) := by
  simp only [spec_l1Knot.f]
  refine Ev.bind (ev_spec_NetOk n E hE hw) ?_
  by_cases h : OK n E
  · have := h.n0
    have := h.n8
    refine Ev.pos (dec_t h) ?_
    rw [w64 (by omega)]
    refine Ev.bind0 (l6In _ _ _) (Ev.some_ (dec_of ?_))
    rw [decide_eq_true_iff]
    unfold In
    exact ⟨fun k => ⟨h, by omega⟩, fun k => by omega⟩
  · exact Ev.neg (by rw [dec_f h]; simp) (Ev.ff (fun k => h k.1) (Ev.now _))
theorem ev_spec_NetHas (n : Int) (E : List T) (a b : Int) (hE : E.length ≤ 1048576) (hw : WF E) : Ev (fun k => spec_NetHas.f k n E a b) (dec (OK n E ∧ Has E a b)) := by
  simp only [spec_NetHas.f]
  refine Ev.bind (ev_spec_NetOk n E hE hw) ?_
  by_cases h : OK n E
  · exact Ev.pos (dec_t h) (Ev.bind (ev_l1Has n E a b hE) (Ev.some_ (dec_congr ⟨fun k => ⟨h, k⟩, fun k => k.2⟩)))
  · exact Ev.neg (by rw [dec_f h]; simp) (Ev.ff (fun k => h k.1) (Ev.now _))
theorem OK.has {n : Int} {E : List T} (h : OK n E) {a b : Int} (hab : Has E a b) : In n a ∧ In n b ∧ a ≠ b := by
  have := h.tie _ hab
  unfold Th.tie at this
  unfold In
  split at this <;> simp only at this <;> omega
end Go.Proofs.Ytdlnnjgjfngccaa.Th
