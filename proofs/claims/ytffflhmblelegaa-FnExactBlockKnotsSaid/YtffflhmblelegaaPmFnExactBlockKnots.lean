/-
The program's BlockKnots answers what the reference's answers, for all arguments: the plain statement, without Go.
-/
import Derived.Test.YtffflhmblelegaaWs
import Derived.WalkKit
import Derived.ProofKit
import Derived.Deep.Slices
import Derived.ChangeSame
import Derived.Test.YtffflhmblelegaaF0
import Derived.Test.YtffflhmblelegaaF3
import Derived.Test.YtffflhmblelegaaF4
import Derived.Test.YtffflhmblelegaaF18
import Derived.Test.YtffflhmblelegaaXAll
import Derived.Test.YtffflhmblelegaaF23
import Derived.Test.YtffflhmblelegaaF35
import Derived.Test.YtffflhmblelegaaF30
import Derived.Test.YtffflhmblelegaaXSortI
import Derived.Test.YtffflhmblelegaaXBlockKnots
import Derived.Test.YtffflhmblelegaaF32
import Derived.Test.YtffflhmblelegaaF31
import Derived.Test.YtffflhmblelegaaF33
import Derived.Test.YtffflhmblelegaaF34
import Derived.Test.YtffflhmblelegaaF54
import Derived.Test.YtffflhmblelegaaF36
import Derived.Test.YtffflhmblelegaaXMarkI
import Derived.Test.YtffflhmblelegaaF55
namespace Go.Proofs.Ytffflhmblelegaa.Op
open Go.ChangeShapes Go.WideShapes Go.Deep Go.Proofs.YtffflhmblelegaaW.PrintWords
/-- Whatever reads as data of type t is told by the kind d, and I holds of it. -/
def Opens {α : Type} (P : Program) (t : TypeId) (d : Kd α) (I : α → Prop) : Prop :=
  ∀ {H : Type} (enc : TypeId × Value → H) (W : World) (base : Nat) (held : Bool) (fuel : Nat) (cs : List Value) (x : DataW H × List MemPlace),
    DataW.trod enc P W base (fun _ => true) held fuel t cs = some x → ∃ a, I a ∧ d.K W a cs
theorem opens_int {P : Program} {t : TypeId} {k : IntKind} (ht : P.underlying t = some (.int k)) : Opens P t (Kd.int k) (fun x => (Lit.int k x).wf = true) := by
  intro H enc W base held fuel cs x h
  obtain ⟨n, rfl, _, hw⟩ := DataW.trod_int ht h
  exact ⟨n, hw, rfl⟩
theorem opens_pair {α β : Type} {P : Program} {t : TypeId} {f0 f1 : Field} {d0 : Kd α} {d1 : Kd β} {I0 : α → Prop} {I1 : β → Prop} (ht : P.underlying t = some (.struct #[f0, f1]))
    (h0 : Opens P f0.type d0 I0) (h1 : Opens P f1.type d1 I1) (o0 : f0.offset = 0) (o1 : f1.offset = P.cellsOf f0.type) (hC : P.cellsOf t = P.cellsOf f0.type + P.cellsOf f1.type) :
    Opens P t (Kd.pair d0 d1) (fun x => I0 x.1 ∧ I1 x.2) := by
  intro H enc W base held fuel cs x h
  obtain ⟨y0, y1, n, _, hl, g0, g1⟩ := trod_struct2 ht h
  obtain ⟨a0, i0, k0⟩ := h0 enc W base held n _ _ g0
  obtain ⟨a1, i1, k1⟩ := h1 enc W base held n _ _ g1
  refine ⟨(a0, a1), ⟨i0, i1⟩, _, _, ?_, k0, k1⟩
  rw [o0, o1, List.drop_zero, List.take_of_length_le (l := cs.drop _) (by rw [List.length_drop]; omega), List.take_append_drop]
theorem opens_iso {α β : Type} {P : Program} {t : TypeId} {d : Kd α} {I : α → Prop} (f : β → α) (g : α → β) (hf : ∀ a, f (g a) = a) (h : Opens P t d I) : Opens P t (Kd.iso d f) (fun b => I (f b)) := by
  intro H enc W base held fuel cs x hx
  obtain ⟨a, i, k⟩ := h enc W base held fuel cs x hx
  refine ⟨g a, ?_, ?_⟩
  · show I (f (g a))
    rw [hf]; exact i
  · show d.K W (f (g a)) cs
    rw [hf]; exact k
theorem opens_slice {α : Type} [Inhabited α] {P : Program} {t e : TypeId} {d : Kd α} {I : α → Prop} (ht : P.underlying t = some (.slice e)) (hC : P.cellsOf e = d.sz) (h : Opens P e d I) :
    Opens P t (Kd.slice e d) (fun l => l.length ≤ maxLen ∧ ∀ x ∈ l, I x) := by
  intro H enc W base held fuel cs x hx
  rcases open_slice ht hx with ⟨rfl, _⟩ | ⟨a, len, cap, m, n, D, Pl, rfl, hb, hl, hm, hmm, _, hi⟩
  · exact ⟨[], ⟨Nat.zero_le _, fun _ h => by cases h⟩, none, 0, rfl, Nat.le_refl _, rfl, Nat.zero_le _, fun h => absurd h (Nat.lt_irrefl 0)⟩
  · simp only [if_true] at hmm
    rw [hmm] at hi
    clear hmm
    have each : ∀ i, i < len → ∃ y : α, I y ∧ ∃ cs', cs'.length = d.sz ∧ d.K W y cs' ∧ ∀ j u, cs'[j]? = some u → W.cell? (a.add (i * d.sz + j)) = some u := by
      intro i hi'
      obtain ⟨cs', hc, hd⟩ := hi i (by omega)
      obtain ⟨y, iy, ky⟩ := h enc W base held n _ _ hd
      rw [hC] at hc
      obtain ⟨_, hcl, hat⟩ := World.cells?_some hc
      refine ⟨y, iy, cs', hcl, ky, fun j u hu => ?_⟩
      have hj := (List.getElem?_eq_some_iff.1 hu).1
      rw [← Go.Deep.add_add, hat j (by omega), hu]
    obtain ⟨f, hf⟩ := choose_lt each
    refine ⟨(List.range len).map f, ⟨by simpa using Nat.le_trans hl hm, ?_⟩, some a, cap, ?_, ?_, rfl, ?_, ?_⟩
    · intro x hx
      obtain ⟨i, hi', rfl⟩ := List.mem_map.1 hx
      exact (hf i (List.mem_range.1 hi')).1
    · simp
    · simpa using hl
    · have := Nat.le_trans hl hm
      unfold maxLen at this
      simpa using this
    · intro _
      refine ⟨a, rfl, fun j p hj => ?_⟩
      obtain ⟨hj', rfl⟩ := List.getElem?_eq_some_iff.1 hj
      simp only [List.getElem_map, List.getElem_range]
      obtain ⟨_, cs', h1, h2, h3⟩ := hf j (by simpa using hj')
      exact ⟨cs', h1, h2, h3⟩
/-- A struct as an argument. -/
theorem Opens.asStruct {H : Type} {enc : TypeId × Value → H} {α : Type} {P : Program} {t : TypeId} {d : Kd α} {I : α → Prop} (h : Opens P t d I) {W : World} {base : Nat} {held : Bool} {cs : Array Value} {x : DataW H} {ps : List MemPlace}
    (hx : DataW.Trod enc P W base (fun _ => true) held t (.agg cs) x ps) : ∃ a, I a ∧ d.K W a cs.toList := by
  obtain ⟨fuel, hf⟩ := hx
  exact h enc W base held fuel _ _ hf
end Go.Proofs.Ytffflhmblelegaa.Op
namespace Go.Proofs.Ytffflhmblelegaa.Th
open Go.RowKit Go.Proofs.YtffflhmblelegaaW.PrintWords Go.Proofs.YtffflhmblelegaaW.PrintLast Go.Proofs.YtffflhmblelegaaW.PrintMore Go.Proofs.Ytffflhmblelegaa.F
theorem w64 {x : Int} (h : -9223372036854775808 ≤ x ∧ x ≤ 9223372036854775807) : wrap64 x = x := by unfold wrap64; omega
theorem wf_i64 {x : Int} (h : (Lit.int .i64 x).wf = true) : -9223372036854775808 ≤ x ∧ x ≤ 9223372036854775807 := by
  simp only [Lit.wf, Bool.and_eq_true, decide_eq_true_eq] at h
  exact h
theorem Ev.succ {α : Type} {g : Nat → Option α} {r : α} (h : Ev (fun k => g (k + 1)) r) : Ev g r := Ev.step (fun _ => rfl) h
theorem Ev.some_ {α : Type} {r s : α} (h : s = r) : Ev (fun _ => some s) r := by subst h; exact Ev.now _
theorem Ev.pos {α : Type} {c : Prop} [Decidable c] {a b : Nat → Option α} {r : α} (hc : c) (h : Ev a r) : Ev (fun k => if c then a k else b k) r := Ev.congr (fun _ => if_pos hc) h
theorem Ev.neg {α : Type} {c : Prop} [Decidable c] {a b : Nat → Option α} {r : α} (hc : ¬ c) (h : Ev b r) : Ev (fun k => if c then a k else b k) r := Ev.congr (fun _ => if_neg hc) h
/-- A callee without rounds. -/
theorem Ev.bind0 {α β : Type} {o : Option α} {a : α} {f : Nat → α → Option β} {r : β} (h : o = some a) (k : Ev (fun n => f n a) r) : Ev (fun n => o.bind (f n)) r := by subst h; exact k
theorem Ev.cast {α : Type} {g : Nat → Option α} {r s : α} (h : Ev g r) (e : r = s) : Ev g s := e ▸ h
/-- A proposition as a Bool. -/
noncomputable def dec (p : Prop) : Bool := @decide p (Classical.propDecidable p)
theorem dec_iff {p : Prop} : dec p = true ↔ p := by unfold dec; exact @decide_eq_true_iff p (Classical.propDecidable p)
theorem dec_t {p : Prop} (h : p) : dec p = true := dec_iff.2 h
theorem dec_f {p : Prop} (h : ¬ p) : dec p = false := by
  cases e : dec p with
  | false => rfl
  | true => exact absurd (dec_iff.1 e) h
theorem dec_of {b : Bool} {p : Prop} (h : b = true ↔ p) : b = dec p := by rw [Bool.eq_iff_iff, h, dec_iff]
theorem dec_congr {p q : Prop} (h : p ↔ q) : dec p = dec q := by rw [Bool.eq_iff_iff, dec_iff, dec_iff, h]
theorem Ev.tt {g : Nat → Option Bool} {p : Prop} (hp : p) (h : Ev g true) : Ev g (dec p) := by rw [dec_t hp]; exact h
theorem Ev.ff {g : Nat → Option Bool} {p : Prop} (hp : ¬ p) (h : Ev g false) : Ev g (dec p) := by rw [dec_f hp]; exact h
theorem Ev.dec {g : Nat → Option Bool} {p : Prop} {b : Bool} (h : Ev g b) (hb : b = true ↔ p) : Ev g (dec p) := Ev.cast h (dec_of hb)
theorem rd_nat (l : List Int) (i : Nat) : rd l (i : Int) = l.getD i 0 := by simp [rd]
end Go.Proofs.Ytffflhmblelegaa.Th
namespace Go.Proofs.Ytffflhmblelegaa.Th
open Go.RowKit Go.Proofs.YtffflhmblelegaaW.PrintWords Go.Proofs.YtffflhmblelegaaW.PrintMore Go.Proofs.Ytffflhmblelegaa.F
abbrev T := S52
theorem T.ext {s t : T} (h0 : s.f0 = t.f0) (h1 : s.f1 = t.f1) : s = t := by cases s; cases t; simp_all
instance : DecidableEq T := fun a b => decidable_of_iff (a.f0 = b.f0 ∧ a.f1 = b.f1) ⟨fun h => T.ext h.1 h.2, fun h => by subst h; exact ⟨rfl, rfl⟩⟩
instance : Inhabited T := ⟨⟨0, 0⟩⟩
/-- The order of ties. -/
def lt (s t : T) : Prop := s.f0 < t.f0 ∨ s.f0 = t.f0 ∧ s.f1 < t.f1
instance (s t : T) : Decidable (lt s t) := inferInstanceAs (Decidable (_ ∨ _))
theorem lt_irrefl (s : T) : ¬ lt s s := by unfold lt; omega
theorem lt_trans {s t u : T} (h : lt s t) (k : lt t u) : lt s u := by unfold lt at *; omega
theorem lt_asymm {s t : T} (h : lt s t) : ¬ lt t s := by unfold lt at *; omega
theorem lt_tri (s t : T) : lt s t ∨ s = t ∨ lt t s := by
  by_cases h : s.f0 = t.f0 <;> by_cases k : s.f1 = t.f1
  · exact Or.inr (Or.inl (T.ext h k))
  · unfold lt; omega
  · unfold lt; omega
  · unfold lt; omega
/-- Strictly ascending. -/
def Asc (E : List T) : Prop := E.Pairwise lt
/-- Neighbours ascend. -/
def AscN : List T → Bool
  | [] => true
  | [_] => true
  | s :: t :: r => decide (lt s t) && AscN (t :: r)
theorem ascN_iff : ∀ E : List T, AscN E = true ↔ Asc E
  | [] => by simp [AscN, Asc]
  | [_] => by simp [AscN, Asc]
  | s :: t :: r => by
    have ih := ascN_iff (t :: r)
    simp only [AscN, Bool.and_eq_true, decide_eq_true_eq, ih, Asc, List.pairwise_cons]
    constructor
    · rintro ⟨h, k, m⟩
      refine ⟨fun u hu => ?_, k, m⟩
      rcases List.mem_cons.1 hu with rfl | hu
      · exact h
      · exact lt_trans h (k u hu)
    · rintro ⟨h, k⟩
      exact ⟨h t (by simp), k⟩
/-- A valid net of n knots. -/
structure OK (n : Int) (E : List T) : Prop where
  n0 : 0 ≤ n
  n8 : n ≤ 8
  tie : ∀ t ∈ E, 0 ≤ t.f0 ∧ t.f0 < t.f1 ∧ t.f1 < n
  asc : Asc E
theorem rd_T_nat (E : List T) (i : Nat) (h : i < E.length) : rd_T52 E i = E[i] := by
  simp [rd_T52, List.getD_eq_getElem?_getD, List.getElem?_eq_getElem h]
/-- How many ties there can be. -/
theorem asc_length (E : List T) (h : Asc E) : ∀ m : Nat, (∀ t ∈ E, 0 ≤ t.f0 * 8 + t.f1 ∧ t.f1 < 8 ∧ 0 ≤ t.f1 ∧ t.f0 * 8 + t.f1 < m) → E.length ≤ m := by
  -- the numbers 8 a + b ascend
  have key : ∀ (E : List T), Asc E → ∀ lo m : Int, lo ≤ m → (∀ t ∈ E, lo ≤ t.f0 * 8 + t.f1 ∧ t.f1 < 8 ∧ 0 ≤ t.f1 ∧ t.f0 * 8 + t.f1 < m) → (E.length : Int) ≤ m - lo := by
    intro E
    induction E with
    | nil => intro _ lo m h _; simp; omega
    | cons s r ih =>
      intro ha lo m hlm hb
      have hs := hb s (by simp)
      have := ih (List.Pairwise.of_cons ha) (s.f0 * 8 + s.f1 + 1) m (by omega) (fun t ht => by
        have h1 := (List.pairwise_cons.1 ha).1 t ht
        have h2 := hb t (by simp [ht])
        unfold lt at h1
        omega)
      simp only [List.length_cons]
      omega
  intro m hb
  have := key E h 0 m (by omega) (fun t ht => by have := hb t ht; omega)
  omega
theorem OK.length {n : Int} {E : List T} (h : OK n E) : E.length ≤ 64 := by
  refine asc_length E h.asc 64 (fun t ht => ?_)
  have := h.tie t ht
  have := h.n8
  omega
theorem l6In (a b c : Int) : spec_l6In.f a b c = some (decide (b ≤ a ∧ a ≤ c)) := by
  unfold spec_l6In.f
  by_cases h : a ≥ b
  · rw [if_pos h]; congr 1; exact decide_eq_decide.2 (by omega)
  · rw [if_neg h]; congr 1; symm; exact decide_eq_false (by omega)
theorem l1Less (s t : T) : spec_l1Less.f s.f0 s.f1 t.f0 t.f1 = some (decide (lt s t)) := by
  unfold spec_l1Less.f lt
  by_cases h : s.f0 < t.f0
  · rw [if_pos h]; congr 1; symm; exact decide_eq_true (by omega)
  · rw [if_neg h]
    by_cases k : s.f0 = t.f0
    · rw [if_pos k]; congr 1; exact decide_eq_decide.2 (by omega)
    · rw [if_neg k]; congr 1; symm; exact decide_eq_false (by omega)
/-- What a round asks of the tie at i. -/
def okAt (n : Int) (E : List T) (i : Nat) : Bool :=
  match E[i]? with
  | none => true
  | some t => decide (0 ≤ t.f0 ∧ t.f0 ≤ n - 1) && decide (t.f0 + 1 ≤ t.f1 ∧ t.f1 ≤ n - 1) && (match i with | 0 => true | j + 1 => match E[j]? with | none => true | some s => decide (lt s t))
theorem ev_spec_NetOk_loop (n : Int) (E : List T) (hn : 0 ≤ n ∧ n ≤ 8) (hE : E.length ≤ 64) (hw : ∀ t ∈ E, (-9223372036854775808 ≤ t.f0 ∧ t.f0 ≤ 9223372036854775807)) :
    ∀ (d i : Nat), i + d = E.length → Ev (fun k => spec_NetOk.l0 k i n E) ((List.range' i d).all (okAt n E))
  | 0, i, h => by
    refine Ev.succ ?_
    simp only [spec_NetOk.l0]
    refine Ev.neg (by omega) ?_
    exact Ev.some_ (by simp)
  | d + 1, i, h => by
    have hi : i < E.length := by omega
    have hE' : E[i]? = some E[i] := List.getElem?_eq_getElem hi
    refine Ev.succ ?_
    simp only [spec_NetOk.l0, rd_T_nat E i hi]
    refine Ev.pos (by omega) (Ev.pos (by omega) ?_)
    rw [w64 (x := n - 1) (by omega)]
    refine Ev.bind0 (l6In _ _ _) ?_
    simp only [List.range'_succ, List.all_cons]
    by_cases h1 : 0 ≤ E[i].f0 ∧ E[i].f0 ≤ n - 1
    · refine Ev.pos (decide_eq_true h1) ?_
      have h2 := hw E[i] (List.getElem_mem hi)
      rw [w64 (x := E[i].f0 + 1) (by omega)]
      refine Ev.bind0 (l6In _ _ _) ?_
      by_cases h3 : E[i].f0 + 1 ≤ E[i].f1 ∧ E[i].f1 ≤ n - 1
      · refine Ev.pos (decide_eq_true h3) ?_
        have hrec := ev_spec_NetOk_loop n E hn hE hw d (i + 1) (by omega)
        cases i with
        | zero =>
          refine Ev.neg (by omega) ?_
          rw [w64 (by omega)]
          refine Ev.cast hrec ?_
          simp [okAt, hE', h1, h3]
        | succ j =>
          refine Ev.pos (by omega) ?_
          have hj : wrap64 (((j + 1 : Nat) : Int) - 1) = (j : Int) := by rw [w64 (by omega)]; omega
          rw [hj]
          refine Ev.pos (by omega) (Ev.pos (by omega) ?_)
          rw [rd_T_nat E j (by omega)]
          refine Ev.bind0 (l1Less _ _) ?_
          have hEj : E[j]? = some (E[j]'(by omega)) := List.getElem?_eq_getElem (by omega)
          by_cases h4 : lt (E[j]'(by omega)) E[j + 1]
          · refine Ev.pos (decide_eq_true h4) ?_
            rw [w64 (by omega)]
            refine Ev.cast hrec ?_
            simp [okAt, hE', hEj, h1, h3, h4]
          · refine Ev.neg (by simp [h4]) ?_
            exact Ev.some_ (by simp [okAt, hE', hEj, h4])
      · refine Ev.neg (by simp [h3]) ?_
        refine Ev.some_ ?_
        simp only [okAt, hE', decide_eq_false h3, Bool.and_false, Bool.false_and]
    · refine Ev.neg (by simp only [decide_eq_true_eq]; exact h1) ?_
      refine Ev.some_ ?_
      simp only [okAt, hE', decide_eq_false h1, Bool.false_and]
theorem okAt_iff (n : Int) (E : List T) (hn : 0 ≤ n ∧ n ≤ 8) : (List.range' 0 E.length).all (okAt n E) = true ↔ OK n E := by
  rw [List.all_eq_true]
  have hr : ∀ i, i ∈ List.range' 0 E.length ↔ i < E.length := fun i => by simp [List.mem_range']
  constructor
  · intro h
    refine ⟨hn.1, hn.2, fun t ht => ?_, ?_⟩
    · obtain ⟨i, hi, rfl⟩ := List.mem_iff_getElem.1 ht
      have := h i ((hr i).2 hi)
      simp only [okAt, List.getElem?_eq_getElem hi, Bool.and_eq_true, decide_eq_true_eq] at this
      omega
    · refine List.pairwise_iff_getElem.2 ?_
      -- neighbours ascend, so all do
      have nb : ∀ j, (hj : j + 1 < E.length) → lt (E[j]'(by omega)) E[j + 1] := fun j hj => by
        have := h (j + 1) ((hr _).2 hj)
        simp only [okAt, List.getElem?_eq_getElem hj, List.getElem?_eq_getElem (show j < E.length by omega), Bool.and_eq_true, decide_eq_true_eq] at this
        exact this.2
      intro i j hi hj hij
      induction j with
      | zero => omega
      | succ j ih =>
        by_cases e : i = j
        · subst e; exact nb i hj
        · exact lt_trans (ih (by omega) (by omega)) (nb j hj)
  · intro h i hi
    rw [hr] at hi
    have h1 := h.tie E[i] (List.getElem_mem hi)
    simp only [okAt, List.getElem?_eq_getElem hi, Bool.and_eq_true, decide_eq_true_eq]
    refine ⟨⟨by omega, by omega⟩, ?_⟩
    cases i with
    | zero => rfl
    | succ j =>
      simp only [List.getElem?_eq_getElem (show j < E.length by omega), decide_eq_true_eq]
      exact List.pairwise_iff_getElem.1 h.asc j (j + 1) (by omega) hi (by omega)
/-- Numbers that a machine's word holds. -/
def WF (E : List T) : Prop := ∀ t ∈ E, (-9223372036854775808 ≤ t.f0 ∧ t.f0 ≤ 9223372036854775807) ∧ (-9223372036854775808 ≤ t.f1 ∧ t.f1 ≤ 9223372036854775807)
theorem OK.wf {n : Int} {E : List T} (h : OK n E) : WF E := fun t ht => by have := h.tie t ht; have := h.n8; omega
theorem ev_spec_NetOk (n : Int) (E : List T) (hE : E.length ≤ 1048576) (hw : WF E) : Ev (fun k => spec_NetOk.f k n E) (dec (OK n E)) := by
  simp only [spec_NetOk.f]
  refine Ev.bind0 (l6In _ _ _) ?_
  by_cases hn : 0 ≤ n ∧ n ≤ 8
  · refine Ev.pos (decide_eq_true hn) ?_
    refine Ev.succ ?_
    simp only [spec_NetOk.j0]
    by_cases hl : (E.length : Int) > 64
    · refine Ev.pos (decide_eq_true hl) ?_
      exact Ev.ff (fun h => by have := h.length; omega) (Ev.now _)
    · refine Ev.neg (by simp only [decide_eq_true_eq]; exact hl) ?_
      exact Ev.dec (ev_spec_NetOk_loop n E hn (by omega) (fun t ht => (hw t ht).1) E.length 0 (by omega)) (okAt_iff n E hn)
  · refine Ev.neg (by simp only [decide_eq_true_eq]; exact hn) ?_
    refine Ev.succ ?_
    simp only [spec_NetOk.j0]
    refine Ev.pos trivial ?_
    exact Ev.ff (fun h => hn ⟨h.n0, h.n8⟩) (Ev.now _)
theorem compare (a b : Int) : cmp_Compare_int.f a b = some (if a < b then -1 else if a > b then 1 else 0) := by
  unfold cmp_Compare_int.f cmp_isNaN_int.f
  simp only [bne_self_eq_false, Option.bind_some]
  rw [if_neg (by decide), if_neg (by decide)]
  split
  · rfl
  · split <;> rfl
theorem ev_or2 (x y : Int) : Ev (fun k => cmp_Or_int.f k [x, y]) (if x = 0 then y else x) := by
  simp only [cmp_Or_int.f]
  refine Ev.succ ?_
  simp only [cmp_Or_int.l0, List.length_cons, List.length_nil]
  refine Ev.pos (by decide) (Ev.pos (by decide) (Ev.pos (by simp) ?_))
  have r0 : rd [x, y] 0 = x := rfl
  rw [r0]
  by_cases h : x = 0
  · refine Ev.pos h ?_
    rw [if_pos h]
    refine Ev.succ ?_
    simp only [cmp_Or_int.l0]
    rw [show wrap64 (0 + 1) = 1 from by unfold wrap64; omega]
    refine Ev.pos (by decide) (Ev.pos (by decide) (Ev.pos (by simp) ?_))
    have r1 : rd [x, y] 1 = y := rfl
    rw [r1]
    by_cases k : y = 0
    · refine Ev.pos k ?_
      refine Ev.succ ?_
      simp only [cmp_Or_int.l0]
      rw [show wrap64 (1 + 1) = 2 from by unfold wrap64; omega]
      refine Ev.neg (by decide) ?_
      exact Ev.some_ k.symm
    · exact Ev.neg k (Ev.now _)
  · refine Ev.neg h ?_
    rw [if_neg h]
    exact Ev.now _
theorem ev_tieOrder (s t : T) : ∃ c : Int, Ev (fun k => impl_tieOrder.f k s.f0 s.f1 t.f0 t.f1) c ∧ (c < 0 ↔ lt s t) := by
  refine ⟨if (if s.f0 < t.f0 then (-1 : Int) else if s.f0 > t.f0 then 1 else 0) = 0 then (if s.f1 < t.f1 then -1 else if s.f1 > t.f1 then 1 else 0) else (if s.f0 < t.f0 then -1 else if s.f0 > t.f0 then 1 else 0), ?_, ?_⟩
  · simp only [impl_tieOrder.f]
    refine Ev.bind0 (compare _ _) (Ev.bind0 (compare _ _) (Ev.bind (ev_or2 _ _) ?_))
    exact Ev.now _
  · unfold lt
    by_cases h1 : s.f0 < t.f0
    · simp only [if_pos h1]
      rw [if_neg (by omega)]
      omega
    · by_cases h2 : s.f0 > t.f0
      · simp only [if_neg h1, if_pos h2]
        rw [if_neg (by omega)]
        omega
      · simp only [if_neg h1, if_neg h2]
        rw [if_pos trivial]
        split
        · omega
        · split <;> omega
theorem ev_ascending_loop (E : List T) (hE : E.length ≤ 1048576) : ∀ (d i : Nat), 0 < i → i + d = E.length → Ev (fun k => impl_ascending.l0 k E i) (AscN (E.drop (i - 1)))
  | 0, i, h0, h => by
    refine Ev.succ ?_
    simp only [impl_ascending.l0]
    refine Ev.neg (by omega) ?_
    refine Ev.some_ ?_
    have : E.drop (i - 1) = [E[i - 1]'(by omega)] := by
      rw [List.drop_eq_getElem_cons (by omega), List.drop_of_length_le (by omega)]
    rw [this]; rfl
  | d + 1, i, h0, h => by
    obtain ⟨j, rfl⟩ : ∃ j, i = j + 1 := ⟨i - 1, by omega⟩
    have hj : j < E.length := by omega
    have hj1 : j + 1 < E.length := by omega
    refine Ev.succ ?_
    simp only [impl_ascending.l0]
    have hw : wrap64 (((j + 1 : Nat) : Int) - 1) = (j : Int) := by rw [w64 (by omega)]; omega
    rw [hw]
    refine Ev.pos (by omega) (Ev.pos (by omega) (Ev.pos (by omega) (Ev.pos (by omega) ?_)))
    rw [rd_T_nat E j hj, rd_T_nat E (j + 1) hj1]
    obtain ⟨c, hc, hlt⟩ := ev_tieOrder E[j] E[j + 1]
    refine Ev.bind hc ?_
    have hd : E.drop (j + 1 - 1) = E[j] :: E[j + 1] :: E.drop (j + 2) := by
      rw [Nat.add_sub_cancel, List.drop_eq_getElem_cons hj, List.drop_eq_getElem_cons hj1]
    rw [hd]
    simp only [AscN]
    by_cases h4 : c ≥ 0
    · refine Ev.pos h4 (Ev.some_ ?_)
      rw [decide_eq_false (fun k => by have := hlt.2 k; omega)]
      rfl
    · refine Ev.neg h4 ?_
      rw [w64 (by omega)]
      refine Ev.cast (ev_ascending_loop E hE d (j + 2) (by omega) (by omega)) ?_
      rw [decide_eq_true (hlt.1 (by omega)), show j + 2 - 1 = j + 1 from rfl, List.drop_eq_getElem_cons hj1]
      simp
theorem ev_ascending (E : List T) (hE : E.length ≤ 1048576) : Ev (fun k => impl_ascending.f k E) (dec (Asc E)) := by
  simp only [impl_ascending.f]
  rw [← dec_of (ascN_iff E)]
  by_cases h : E.length = 0
  · refine Ev.succ ?_
    simp only [impl_ascending.l0]
    refine Ev.neg (by omega) ?_
    have : E = [] := List.length_eq_zero_iff.1 h
    subst this
    exact Ev.now _
  · have := ev_ascending_loop E hE (E.length - 1) 1 (by omega) (by omega)
    simpa using this
theorem ev_impl_NetOk_loop (n : Int) (E : List T) (hE : E.length ≤ 1048576) : ∀ (d i : Nat), i + d = E.length →
    Ev (fun k => impl_NetOk.l0 k E E.length i n E) (dec ((∀ t ∈ E.drop i, 0 ≤ t.f0 ∧ t.f0 < t.f1 ∧ t.f1 < n) ∧ Asc E))
  | 0, i, h => by
    refine Ev.succ ?_
    simp only [impl_NetOk.l0]
    refine Ev.neg (by omega) ?_
    refine Ev.bind (ev_ascending E hE) ?_
    refine Ev.some_ (dec_congr ?_)
    rw [List.drop_of_length_le (by omega)]
    simp
  | d + 1, i, h => by
    have hi : i < E.length := by omega
    refine Ev.succ ?_
    simp only [impl_NetOk.l0, rd_T_nat E i hi]
    refine Ev.pos (by omega) (Ev.pos (by omega) (Ev.pos (by omega) ?_))
    rw [List.drop_eq_getElem_cons hi]
    by_cases h1 : E[i].f0 < 0
    · exact Ev.pos h1 (Ev.ff (fun a => by have := a.1 E[i] List.mem_cons_self; omega) (Ev.now _))
    · refine Ev.neg h1 ?_
      by_cases h2 : E[i].f0 ≥ E[i].f1
      · exact Ev.pos h2 (Ev.ff (fun a => by have := a.1 E[i] List.mem_cons_self; omega) (Ev.now _))
      · refine Ev.neg h2 ?_
        by_cases h3 : E[i].f1 ≥ n
        · exact Ev.pos h3 (Ev.ff (fun a => by have := a.1 E[i] List.mem_cons_self; omega) (Ev.now _))
        · refine Ev.neg h3 ?_
          rw [w64 (by omega)]
          refine Ev.cast (ev_impl_NetOk_loop n E hE d (i + 1) (by omega)) (dec_congr ?_)
          simp only [List.forall_mem_cons]
          exact ⟨fun a => ⟨⟨by omega, a.1⟩, a.2⟩, fun a => ⟨a.1.2, a.2⟩⟩
theorem ev_impl_NetOk (n : Int) (E : List T) (hE : E.length ≤ 1048576) : Ev (fun k => impl_NetOk.f k n E) (dec (OK n E)) := by
  simp only [impl_NetOk.f]
  by_cases h0 : n < 0
  · refine Ev.pos h0 (Ev.succ ?_)
    simp only [impl_NetOk.j0]
    exact Ev.pos trivial (Ev.ff (fun h => by have := h.n0; omega) (Ev.now _))
  · refine Ev.neg h0 (Ev.succ ?_)
    simp only [impl_NetOk.j0]
    by_cases h8 : n > 8
    · exact Ev.pos (decide_eq_true h8) (Ev.ff (fun h => by have := h.n8; omega) (Ev.now _))
    · refine Ev.neg (by simp only [decide_eq_true_eq]; exact h8) ?_
      refine Ev.cast (ev_impl_NetOk_loop n E hE E.length 0 (by omega)) (dec_congr ?_)
      rw [List.drop_zero]
      exact ⟨fun h => ⟨by omega, by omega, h.1, h.2⟩, fun h => ⟨h.tie, h.asc⟩⟩
def tie (a b : Int) : T := if a < b then ⟨a, b⟩ else ⟨b, a⟩
theorem tie_comm (a b : Int) : tie a b = tie b a := by
  unfold tie
  by_cases h : a < b
  · rw [if_pos h, if_neg (by omega)]
  · by_cases k : b < a
    · rw [if_neg h, if_pos k]
    · have : a = b := by omega
      subst this; rfl
theorem l1Tie (a b : Int) : spec_l1Tie.f a b = some ((tie a b).f0, (tie a b).f1) := by
  unfold spec_l1Tie.f tie
  split <;> rfl
def Has (E : List T) (a b : Int) : Prop := tie a b ∈ E
theorem Has.symm {E : List T} {a b : Int} (h : Has E a b) : Has E b a := by unfold Has at *; rw [tie_comm]; exact h
theorem ev_l1Has_loop (n : Int) (E : List T) (a b : Int) (hE : E.length ≤ 1048576) : ∀ (d i : Nat), i + d = E.length → Ev (fun k => spec_l1Has.l0 k a b i n E) (dec (tie a b ∈ E.drop i))
  | 0, i, h => by
    refine Ev.succ ?_
    simp only [spec_l1Has.l0]
    refine Ev.neg (by omega) (Ev.ff ?_ (Ev.now _))
    rw [List.drop_of_length_le (by omega)]; simp
  | d + 1, i, h => by
    have hi : i < E.length := by omega
    refine Ev.succ ?_
    simp only [spec_l1Has.l0, rd_T_nat E i hi]
    refine Ev.pos (by omega) (Ev.pos (by omega) (Ev.bind0 (l1Tie a b) ?_))
    rw [List.drop_eq_getElem_cons hi]
    by_cases e : E[i] = tie a b
    · exact Ev.pos (by rw [e]; simp) (Ev.tt (by rw [e]; exact List.mem_cons_self) (Ev.now _))
    · refine Ev.neg (fun k => e ?_) ?_
      · simp only [Bool.and_eq_true, beq_iff_eq] at k
        exact T.ext k.1 k.2
      · rw [w64 (by omega)]
        refine Ev.cast (ev_l1Has_loop n E a b hE d (i + 1) (by omega)) (dec_congr ?_)
        rw [List.mem_cons]
        exact ⟨Or.inr, fun k => k.resolve_left (fun x => e x.symm)⟩
theorem ev_l1Has (n : Int) (E : List T) (a b : Int) (hE : E.length ≤ 1048576) : Ev (fun k => spec_l1Has.f k n E a b) (dec (Has E a b)) := by
  simp only [spec_l1Has.f]
  exact ev_l1Has_loop n E a b hE E.length 0 (by omega)
/-- A knot of a net. -/
def In (n k : Int) : Prop := 0 ≤ k ∧ k < n
instance (n k : Int) : Decidable (In n k) := inferInstanceAs (Decidable (_ ∧ _))
theorem ev_l1Knot (n : Int) (E : List T) (a : Int) (hE : E.length ≤ 1048576) (hw : WF E) : Ev (fun k => spec_l1Knot.f k n E a) (dec (OK n E ∧ In n a)) := by
  simp only [spec_l1Knot.f]
  refine Ev.bind (ev_spec_NetOk n E hE hw) ?_
  by_cases h : OK n E
  · have := h.n0
    have := h.n8
    refine Ev.pos (dec_t h) ?_
    rw [w64 (by omega)]
    refine Ev.bind0 (l6In _ _ _) (Ev.some_ (dec_of ?_))
    rw [decide_eq_true_iff]
    unfold In
    exact ⟨fun k => ⟨h, by omega⟩, fun k => by omega⟩
  · exact Ev.neg (by rw [dec_f h]; simp) (Ev.ff (fun k => h k.1) (Ev.now _))
theorem OK.has {n : Int} {E : List T} (h : OK n E) {a b : Int} (hab : Has E a b) : In n a ∧ In n b ∧ a ≠ b := by
  have := h.tie _ hab
  unfold Th.tie at this
  unfold In
  split at this <;> simp only at this <;> omega
end Go.Proofs.Ytffflhmblelegaa.Th
namespace Go.Proofs.Ytffflhmblelegaa.Th
open Go.RowKit Go.Proofs.YtffflhmblelegaaW.PrintWords Go.Proofs.YtffflhmblelegaaW.PrintLast Go.Proofs.YtffflhmblelegaaW.PrintMore Go.Proofs.Ytffflhmblelegaa.F
theorem ev_index_loop (E : List T) (s : T) (hE : E.length ≤ 1048576) : ∀ (d i : Nat), i + d = E.length → ∃ c : Int, Ev (fun k => slices_Index_impl_Tie_impl_Tie.l0 k E E.length i s.f0 s.f1) c ∧ (c ≥ 0 ↔ s ∈ E.drop i)
  | 0, i, h => by
    refine ⟨-1, Ev.succ ?_, ?_⟩
    · simp only [slices_Index_impl_Tie_impl_Tie.l0]
      exact Ev.neg (by omega) (Ev.now _)
    · rw [List.drop_of_length_le (by omega)]; simp
  | d + 1, i, h => by
    have hi : i < E.length := by omega
    by_cases e : s = E[i]
    · refine ⟨i, Ev.succ ?_, ?_⟩
      · simp only [slices_Index_impl_Tie_impl_Tie.l0, rd_T_nat E i hi]
        refine Ev.pos (by omega) (Ev.pos (by omega) (Ev.pos (by omega) (Ev.pos (by rw [e]; simp) (Ev.now _))))
      · rw [List.drop_eq_getElem_cons hi]
        exact ⟨fun _ => by rw [e]; exact List.mem_cons_self, fun _ => by omega⟩
    · obtain ⟨c, hc, hm⟩ := ev_index_loop E s hE d (i + 1) (by omega)
      refine ⟨c, Ev.succ ?_, ?_⟩
      · simp only [slices_Index_impl_Tie_impl_Tie.l0, rd_T_nat E i hi]
        refine Ev.pos (by omega) (Ev.pos (by omega) (Ev.pos (by omega) (Ev.neg (fun k => e ?_) ?_)))
        · simp only [Bool.and_eq_true, beq_iff_eq] at k
          exact T.ext k.1 k.2
        · rw [w64 (by omega)]
          exact hc
      · rw [List.drop_eq_getElem_cons hi, List.mem_cons, hm]
        exact ⟨Or.inr, fun k => k.resolve_left e⟩
theorem ev_contains (E : List T) (s : T) (hE : E.length ≤ 1048576) : Ev (fun k => slices_Contains_impl_Tie_impl_Tie.f k E s.f0 s.f1) (dec (s ∈ E)) := by
  obtain ⟨c, hc, hm⟩ := ev_index_loop E s hE E.length 0 (by omega)
  simp only [slices_Contains_impl_Tie_impl_Tie.f, slices_Index_impl_Tie_impl_Tie.f]
  refine Ev.bind hc (Ev.some_ (dec_of ?_))
  rw [decide_eq_true_iff, hm, List.drop_zero]
theorem impl_tie_eq (a b : Int) : impl_tie.f a b = some ((tie a b).f0, (tie a b).f1) := by
  unfold impl_tie.f tie mn mx
  by_cases h : a < b
  · rw [if_pos h, if_pos h, if_neg (by omega)]
  · rw [if_neg h, if_neg h]
    by_cases k : b < a
    · rw [if_pos k]
    · rw [if_neg k]
      have e : a = b := by omega
      subst e; rfl
theorem ev_has (n : Int) (E : List T) (a b : Int) (hE : E.length ≤ 1048576) : Ev (fun k => impl_Net_has.f k n E a b) (dec (Has E a b)) := by
  simp only [impl_Net_has.f]
  exact Ev.bind0 (impl_tie_eq a b) (Ev.bind (ev_contains E (tie a b) hE) (Ev.now _))
/-- The knots 0, 1, .. of a net. -/
def ks (n : Int) : List Int := (List.range n.toNat).map (fun i : Nat => (i : Int))
theorem mem_ks {n k : Int} : k ∈ ks n ↔ 0 ≤ k ∧ k < n := by
  unfold ks
  simp only [List.mem_map, List.mem_range]
  exact ⟨fun ⟨i, h, e⟩ => by omega, fun h => ⟨k.toNat, by omega, by omega⟩⟩
theorem ks_length (n : Int) : (ks n).length = n.toNat := by simp [ks]
theorem ks_getElem (n : Int) (i : Nat) (h : i < (ks n).length) : (ks n)[i] = (i : Int) := by simp [ks]
theorem ks_pairwise (n : Int) : (ks n).Pairwise (· < ·) := by
  refine List.pairwise_iff_getElem.2 (fun i j hi hj h => ?_)
  rw [ks_getElem, ks_getElem]; omega
/-- Counting on from j. -/
def ksFrom (n j : Int) : List Int := (ks n).drop j.toNat
theorem ksFrom_zero (n : Int) : ksFrom n 0 = ks n := by simp [ksFrom]
theorem ksFrom_end {n j : Int} (h : n ≤ j) : ksFrom n j = [] := by
  unfold ksFrom
  exact List.drop_of_length_le (by rw [ks_length]; omega)
theorem ksFrom_cons {n j : Int} (h0 : 0 ≤ j) (h : j < n) : ksFrom n j = j :: ksFrom n (j + 1) := by
  unfold ksFrom
  rw [List.drop_eq_getElem_cons (by rw [ks_length]; omega), ks_getElem]
  rw [show (j + 1).toNat = j.toNat + 1 by omega]
  congr 1
  omega
theorem ks_split {n j : Int} (h0 : 0 ≤ j) (h : j < n) : ks n = ks j ++ j :: ksFrom n (j + 1) := by
  have : ks j = (ks n).take j.toNat := by
    unfold ks
    rw [← List.map_take, List.take_range, Nat.min_eq_left (by omega)]
  rw [this, ← ksFrom_cons h0 h, ksFrom, List.take_append_drop]
theorem ks_succ {j : Int} (h0 : 0 ≤ j) : ks (j + 1) = ks j ++ [j] := by
  rw [ks_split h0 (by omega : j < j + 1), ksFrom_end (by omega)]
theorem rd_i (l : List Int) (x : Int) (h : 0 ≤ x) (k : x < l.length) : rd l x = l[x.toNat]'(by omega) := by
  simp [rd, List.getD_eq_getElem?_getD, List.getElem?_eq_getElem (show x.toNat < l.length by omega)]
theorem rdB_i (l : List Bool) (x : Int) (h : 0 ≤ x) (k : x < l.length) : rdOf false l x = l[x.toNat]'(by omega) := by
  simp [rdOf, List.getD_eq_getElem?_getD, List.getElem?_eq_getElem (show x.toNat < l.length by omega)]
theorem rd_set (l : List Int) (i j x : Int) (h : 0 ≤ i) (k : i < l.length) (hj : 0 ≤ j) : rd (l.set i.toNat x) j = if j = i then x else rd l j := by
  unfold rd
  simp only [List.getD_eq_getElem?_getD]
  by_cases e : j = i
  · subst e
    rw [List.getElem?_set_self (by omega), if_pos rfl]; rfl
  · rw [if_neg e, List.getElem?_set_ne (by omega)]
theorem rdB_set (l : List Bool) (i j : Int) (x : Bool) (h : 0 ≤ i) (k : i < l.length) (hj : 0 ≤ j) : rdOf false (l.set i.toNat x) j = if j = i then x else rdOf false l j := by
  unfold rdOf
  simp only [List.getD_eq_getElem?_getD]
  by_cases e : j = i
  · subst e
    rw [List.getElem?_set_self (by omega), if_pos rfl]; rfl
  · rw [if_neg e, List.getElem?_set_ne (by omega)]
theorem ext_rd {a b : List Int} (h : a.length = b.length) (k : ∀ x : Int, 0 ≤ x → x < a.length → rd a x = rd b x) : a = b := by
  refine List.ext_getElem h (fun i h1 h2 => ?_)
  have := k i (by omega) (by omega)
  rw [rd_i a i (by omega) (by omega), rd_i b i (by omega) (by omega)] at this
  exact this
theorem ext_rdB {a b : List Bool} (h : a.length = b.length) (k : ∀ x : Int, 0 ≤ x → x < a.length → rdOf false a x = rdOf false b x) : a = b := by
  refine List.ext_getElem h (fun i h1 h2 => ?_)
  have := k i (by omega) (by omega)
  rw [rdB_i a i (by omega) (by omega), rdB_i b i (by omega) (by omega)] at this
  exact this
theorem rd_mapks (n : Int) (f : Int → Int) (x : Int) (h : 0 ≤ x) (k : x < n) : rd ((ks n).map f) x = f x := by
  rw [rd_i _ _ h (by rw [List.length_map, ks_length]; omega), List.getElem_map, ks_getElem]
  congr 1; omega
theorem rdB_mapks (n : Int) (f : Int → Bool) (x : Int) (h : 0 ≤ x) (k : x < n) : rdOf false ((ks n).map f) x = f x := by
  rw [rdB_i _ _ h (by rw [List.length_map, ks_length]; omega), List.getElem_map, ks_getElem]
  congr 1; omega
theorem sum_set : ∀ (l : List Int) (i : Nat) (x : Int) (h : i < l.length), (l.set i x).sum = l.sum - l[i] + x
  | [], i, x, h => by simp at h
  | a :: l, 0, x, h => by simp; omega
  | a :: l, i + 1, x, h => by
    have h' : i < l.length := by simpa using h
    have := sum_set l i x h'
    simp only [List.set_cons_succ, List.sum_cons, List.getElem_cons_succ, this]
    omega
theorem sum_nonneg : ∀ (l : List Int), (∀ x ∈ l, 0 ≤ x) → 0 ≤ l.sum
  | [], _ => by simp
  | a :: l, h => by
    have := sum_nonneg l (fun x hx => h x (by simp [hx]))
    have := h a (by simp)
    simp only [List.sum_cons]; omega
/-- How many are false. -/
def falses : List Bool → Nat
  | [] => 0
  | b :: l => (if b then 0 else 1) + falses l
theorem falses_set : ∀ (l : List Bool) (i : Nat) (h : i < l.length), l[i] = false → falses (l.set i true) + 1 = falses l
  | [], i, h, _ => by simp at h
  | a :: l, 0, h, e => by
    simp only [List.getElem_cons_zero] at e
    subst e
    simp [falses]; omega
  | a :: l, i + 1, h, e => by
    have h' : i < l.length := by simpa using h
    have := falses_set l i h' (by simpa using e)
    simp only [List.set_cons_succ, falses]
    omega
theorem any_loop {L : Nat → Nat → Option Bool} (len : Nat) (p : Nat → Prop) (hend : Ev (fun k => L k len) false) (hno : ∀ i, i < len → ¬ p i → ∀ b, Ev (fun k => L k (i + 1)) b → Ev (fun k => L k i) b)
    (hyes : ∀ i, i < len → p i → Ev (fun k => L k i) true) : ∀ d i, i + d = len → Ev (fun k => L k i) (dec (∃ j, i ≤ j ∧ j < len ∧ p j))
  | 0, i, h => by
    obtain rfl : i = len := by omega
    exact Ev.ff (fun ⟨j, h1, h2, _⟩ => by omega) hend
  | d + 1, i, h => by
    by_cases hp : p i
    · exact Ev.tt ⟨i, Nat.le_refl _, by omega, hp⟩ (hyes i (by omega) hp)
    · refine Ev.cast (hno i (by omega) hp _ (any_loop len p hend hno hyes d (i + 1) (by omega))) (dec_congr ?_)
      constructor
      · rintro ⟨j, h1, h2, h3⟩; exact ⟨j, by omega, h2, h3⟩
      · rintro ⟨j, h1, h2, h3⟩
        by_cases e : j = i
        · subst e; exact absurd h3 hp
        · exact ⟨j, by omega, h2, h3⟩
theorem rd_getElem (l : List Int) (i : Nat) (h : i < l.length) : rd l (i : Int) = l[i] := by
  rw [rd_nat, List.getD_eq_getElem?_getD, List.getElem?_eq_getElem h, Option.getD_some]
theorem mem_iff_rd (l : List Int) (x : Int) : x ∈ l ↔ ∃ j, 0 ≤ j ∧ j < l.length ∧ rd l (j : Int) = x := by
  rw [List.mem_iff_getElem]
  constructor
  · rintro ⟨j, h, e⟩; exact ⟨j, Nat.zero_le _, h, by rw [rd_getElem l j h]; exact e⟩
  · rintro ⟨j, _, h, e⟩; exact ⟨j, h, by rw [← rd_getElem l j h]; exact e⟩
end Go.Proofs.Ytffflhmblelegaa.Th
namespace Go.Proofs.Ytffflhmblelegaa.Th
open Go.RowKit Go.Proofs.YtffflhmblelegaaW.PrintWords Go.Proofs.YtffflhmblelegaaW.PrintMore Go.Proofs.Ytffflhmblelegaa.F
theorem ev_indexInt_loop (l : List Int) (x : Int) (hl : l.length ≤ 1048576) : ∀ (d i : Nat), i + d = l.length → ∃ c : Int, Ev (fun k => slices_Index_int_int.l0 k l x l.length i) c ∧ (c ≥ 0 ↔ x ∈ l.drop i)
  | 0, i, h => by
    refine ⟨-1, Ev.succ ?_, ?_⟩
    · simp only [slices_Index_int_int.l0]
      exact Ev.neg (by omega) (Ev.now _)
    · rw [List.drop_of_length_le (by omega)]; simp
  | d + 1, i, h => by
    have hi : i < l.length := by omega
    by_cases e : x = l[i]
    · refine ⟨i, Ev.succ ?_, ?_⟩
      · simp only [slices_Index_int_int.l0, rd_getElem l i hi]
        exact Ev.pos (by omega) (Ev.pos (by omega) (Ev.pos (by omega) (Ev.pos e (Ev.now _))))
      · rw [List.drop_eq_getElem_cons hi]
        exact ⟨fun _ => by rw [e]; exact List.mem_cons_self, fun _ => by omega⟩
    · obtain ⟨c, hc, hm⟩ := ev_indexInt_loop l x hl d (i + 1) (by omega)
      refine ⟨c, Ev.succ ?_, ?_⟩
      · simp only [slices_Index_int_int.l0, rd_getElem l i hi]
        refine Ev.pos (by omega) (Ev.pos (by omega) (Ev.pos (by omega) (Ev.neg e ?_)))
        rw [w64 (by omega)]
        exact hc
      · rw [List.drop_eq_getElem_cons hi, List.mem_cons, hm]
        exact ⟨Or.inr, fun k => k.resolve_left e⟩
theorem ev_containsInt (l : List Int) (x : Int) (hl : l.length ≤ 1048576) : Ev (fun k => slices_Contains_int_int.f k l x) (dec (x ∈ l)) := by
  obtain ⟨c, hc, hm⟩ := ev_indexInt_loop l x hl l.length 0 (by omega)
  simp only [slices_Contains_int_int.f, slices_Index_int_int.f]
  refine Ev.bind hc (Ev.some_ (dec_of ?_))
  rw [decide_eq_true_iff, hm, List.drop_zero]
end Go.Proofs.Ytffflhmblelegaa.Th
namespace Go.Proofs.Ytffflhmblelegaa.Th
open Go.RowKit Go.Proofs.YtffflhmblelegaaW.PrintWords Go.Proofs.YtffflhmblelegaaW.PrintLast Go.Proofs.YtffflhmblelegaaW.PrintMore Go.Proofs.Ytffflhmblelegaa.F
/-- The second is come to from the first. -/
inductive Conn (E : List T) : Int → Int → Prop
  | refl (a : Int) : Conn E a a
  | step {a b c : Int} : Conn E a b → Has E b c → Conn E a c
theorem Conn.one {E : List T} {a b : Int} (h : Has E a b) : Conn E a b := .step (.refl a) h
theorem Conn.trans {E : List T} {a b c : Int} (h : Conn E a b) (k : Conn E b c) : Conn E a c := by
  induction k with
  | refl => exact h
  | step _ m ih => exact .step ih m
theorem Conn.symm {E : List T} {a b : Int} (h : Conn E a b) : Conn E b a := by
  induction h with
  | refl => exact .refl _
  | step _ m ih => exact (Conn.one m.symm).trans ih
theorem Conn.comm {E : List T} {a b : Int} : Conn E a b ↔ Conn E b a := ⟨Conn.symm, Conn.symm⟩
theorem Conn.mono {E F : List T} (h : ∀ t, t ∈ E → t ∈ F) {a b : Int} (k : Conn E a b) : Conn F a b := by
  induction k with
  | refl => exact .refl _
  | step _ m ih => exact .step ih (h _ m)
theorem Conn.congr {E F : List T} (h : ∀ t, t ∈ E ↔ t ∈ F) {a b : Int} : Conn E a b ↔ Conn F a b := ⟨Conn.mono fun t => (h t).1, Conn.mono fun t => (h t).2⟩
/-- What ties keep, what is come to keeps. -/
theorem Conn.keeps {E : List T} {P : Int → Prop} (h : ∀ a b, Has E a b → P a → P b) {a b : Int} (k : Conn E a b) (ha : P a) : P b := by
  induction k with
  | refl => exact ha
  | step _ m ih => exact h _ _ m ih
theorem Conn.inNet {n : Int} {E : List T} (h : OK n E) {a b : Int} (k : Conn E a b) (ha : In n a) : In n b := k.keeps (fun _ _ m _ => (h.has m).2.1) ha
theorem Conn.first {E : List T} {a b : Int} (h : Conn E a b) : a = b ∨ ∃ c, Has E a c ∧ Conn E c b := by
  induction h with
  | refl => exact Or.inl rfl
  | step m hb ih =>
    rcases ih with rfl | ⟨c, h1, h2⟩
    · exact Or.inr ⟨_, hb, .refl _⟩
    · exact Or.inr ⟨c, h1, .step h2 hb⟩
theorem tie_self {n : Int} {E : List T} (h : OK n E) {t : T} (ht : t ∈ E) : tie t.f0 t.f1 = t := by
  have := h.tie t ht
  unfold tie
  rw [if_pos (by omega)]
theorem has_of_mem {n : Int} {E : List T} (h : OK n E) {t : T} (ht : t ∈ E) : Has E t.f0 t.f1 := by
  unfold Has; rw [tie_self h ht]; exact ht
/-- The two knots of a tie. -/
theorem tie_ends {a b : Int} {t : T} (e : tie a b = t) : (a = t.f0 ∧ b = t.f1) ∨ (a = t.f1 ∧ b = t.f0) := by
  unfold tie at e
  split at e <;> subst e
  · exact Or.inl ⟨rfl, rfl⟩
  · exact Or.inr ⟨rfl, rfl⟩
theorem tie_inj {a b c d : Int} (h : tie a b = tie c d) : (a = c ∧ b = d) ∨ (a = d ∧ b = c) := by
  unfold tie at h
  split at h <;> split at h <;> simp only [S52.mk.injEq] at h <;> omega
theorem OK.filter {n : Int} {E : List T} (h : OK n E) (p : T → Bool) : OK n (E.filter p) :=
  ⟨h.n0, h.n8, fun t ht => h.tie t (List.mem_filter.1 ht).1, h.asc.filter p⟩
theorem OK.nil {n : Int} (h0 : 0 ≤ n) (h8 : n ≤ 8) : OK n [] := ⟨h0, h8, by simp, List.Pairwise.nil⟩
/-- A net without some ties. -/
noncomputable def less (E : List T) (p : T → Prop) : List T := E.filter (fun t => !dec (p t))
theorem mem_less {E : List T} {p : T → Prop} {t : T} : t ∈ less E p ↔ t ∈ E ∧ ¬ p t := by
  unfold less
  rw [List.mem_filter]
  by_cases h : p t
  · rw [dec_t h]; simp [h]
  · rw [dec_f h]; simp [h]
theorem OK.less {n : Int} {E : List T} (h : OK n E) (p : T → Prop) : OK n (less E p) := h.filter _
theorem less_congr {E : List T} {p q : T → Prop} (h : ∀ t ∈ E, p t ↔ q t) : less E p = less E q := by
  unfold less
  refine List.filter_congr (fun t ht => ?_)
  rw [dec_congr (h t ht)]
/-- Without the ties of a knot. -/
abbrev AtK (k : Int) (t : T) : Prop := t.f0 = k ∨ t.f1 = k
/-- The ties that a knot does not have. -/
noncomputable abbrev lessK (E : List T) (k : Int) : List T := less E (AtK k)
theorem less_cons_pos {t : T} {E : List T} {p : T → Prop} (h : p t) : less (t :: E) p = less E p := by
  unfold less
  rw [List.filter_cons_of_neg (p := fun t => !dec (p t)) (by rw [dec_t h]; simp)]
theorem less_cons_neg {t : T} {E : List T} {p : T → Prop} (h : ¬ p t) : less (t :: E) p = t :: less E p := by
  unfold less
  rw [List.filter_cons_of_pos (p := fun t => !dec (p t)) (by rw [dec_f h]; rfl)]
noncomputable def rep (E : List T) (i : Int) : Int := ((ks (i + 1)).find? (fun j => dec (Conn E j i))).getD 0
theorem rep_spec (E : List T) {i : Int} (h : 0 ≤ i) : Conn E (rep E i) i ∧ 0 ≤ rep E i ∧ rep E i ≤ i ∧ ∀ j, 0 ≤ j → Conn E j i → rep E i ≤ j := by
  unfold rep
  cases e : (ks (i + 1)).find? (fun j => dec (Conn E j i)) with
  | none =>
    rw [List.find?_eq_none] at e
    exact absurd (dec_t (Conn.refl i)) (by have := e i (mem_ks.2 (by omega)); simpa using this)
  | some x =>
    obtain ⟨h1, l1, l2, h2, h3⟩ := List.find?_eq_some_iff_append.1 e
    have hx : x ∈ ks (i + 1) := by rw [h2]; simp
    have hx' := mem_ks.1 hx
    refine ⟨dec_iff.1 h1, hx'.1, by simp only [Option.getD_some]; omega, fun j hj hc => ?_⟩
    simp only [Option.getD_some]
    by_cases hji : j ≤ i
    · have hj' : j ∈ ks (i + 1) := mem_ks.2 (by omega)
      have hp := ks_pairwise (i + 1)
      rw [h2] at hj' hp
      rcases List.mem_append.1 hj' with m | m
      · have := h3 j m
        rw [dec_t hc] at this
        exact absurd this (by simp)
      · rcases List.mem_cons.1 m with rfl | m
        · exact Int.le_refl _
        · have := (List.pairwise_cons.1 (List.pairwise_append.1 hp).2.1).1 j m
          omega
    · omega
theorem rep_conn (E : List T) {i : Int} (h : 0 ≤ i) : Conn E (rep E i) i := (rep_spec E h).1
theorem rep_nonneg (E : List T) {i : Int} (h : 0 ≤ i) : 0 ≤ rep E i := (rep_spec E h).2.1
theorem rep_least (E : List T) {i : Int} (h : 0 ≤ i) {j : Int} (hj : 0 ≤ j) (hc : Conn E j i) : rep E i ≤ j := (rep_spec E h).2.2.2 j hj hc
theorem rep_unique (E : List T) {i x : Int} (h : 0 ≤ i) (hx : 0 ≤ x) (hc : Conn E x i) (hl : ∀ j, 0 ≤ j → Conn E j i → x ≤ j) : rep E i = x := by
  have h1 := rep_least E h hx hc
  have h2 := hl _ (rep_nonneg E h) (rep_conn E h)
  omega
/-- The labels of all knots; where one leads; how many parts there are. -/
noncomputable def partsL (n : Int) (E : List T) : List Int := (ks n).map (rep E)
noncomputable def reachL (n : Int) (E : List T) (a : Int) : List Bool := (ks n).map (fun b => dec (Conn E a b))
end Go.Proofs.Ytffflhmblelegaa.Th
namespace Go.Proofs.Ytffflhmblelegaa.Th
open Go.RowKit Go.Proofs.YtffflhmblelegaaW.PrintWords Go.Proofs.YtffflhmblelegaaW.PrintMore Go.Proofs.Ytffflhmblelegaa.F
def Walk (R : Int → Int → Prop) : List Int → Prop
  | [] => True
  | [_] => True
  | a :: b :: l => R a b ∧ Walk R (b :: l)
/-- A way of a net. -/
structure IsWay (n : Int) (E : List T) (w : List Int) : Prop where
  ne : w ≠ []
  inn : ∀ v ∈ w, In n v
  nd : w.Nodup
  walk : Walk (Has E) w
/-- A way from one knot to another one, of a valid net. -/
def Leads (n : Int) (E : List T) (a b : Int) (w : List Int) : Prop := OK n E ∧ IsWay n E w ∧ rd w 0 = a ∧ rd w ((w.length : Int) - 1) = b
theorem Leads.pos {n : Int} {E : List T} {a b : Int} {w : List Int} (h : Leads n E a b w) : 0 < w.length := List.length_pos_iff.2 h.2.1.ne
end Go.Proofs.Ytffflhmblelegaa.Th
namespace Go.Proofs.Ytffflhmblelegaa.Th
open Go.RowKit Go.Proofs.YtffflhmblelegaaW.PrintWords Go.Proofs.YtffflhmblelegaaW.PrintLast Go.Proofs.YtffflhmblelegaaW.PrintMore Go.Proofs.Ytffflhmblelegaa.F
theorem walk_cons (R : Int → Int → Prop) (a b : Int) (l : List Int) : Walk R (a :: b :: l) ↔ R a b ∧ Walk R (b :: l) := Iff.rfl
theorem walk_app (R : Int → Int → Prop) : ∀ (A : List Int) (k : Int) (B : List Int), Walk R (A ++ k :: B) ↔ Walk R (A ++ [k]) ∧ Walk R (k :: B)
  | [], k, B => by simp [Walk]
  | [a], k, B => by simp [Walk]
  | a :: b :: A, k, B => by
    have := walk_app R (b :: A) k B
    simp only [List.cons_append, walk_cons] at this ⊢
    rw [this, and_assoc]
theorem walk_mono {R S : Int → Int → Prop} (h : ∀ a b, R a b → S a b) : ∀ w : List Int, Walk R w → Walk S w
  | [], _ => trivial
  | [_], _ => trivial
  | _ :: b :: l, k => ⟨h _ _ k.1, walk_mono h (b :: l) k.2⟩
theorem walk_rev {R : Int → Int → Prop} (hs : ∀ a b, R a b → R b a) : ∀ w : List Int, Walk R w → Walk R w.reverse
  | [], _ => trivial
  | [_], _ => trivial
  | a :: b :: l, k => by
    have ih := walk_rev hs (b :: l) k.2
    rw [List.reverse_cons] at ih ⊢
    rw [List.reverse_cons, List.append_assoc, List.singleton_append]
    exact (walk_app R _ _ _).2 ⟨ih, hs _ _ k.1, trivial⟩
/-- The ties of a row of knots. -/
def es : List Int → List T
  | [] => []
  | [_] => []
  | a :: b :: l => tie a b :: es (b :: l)
theorem es_app : ∀ (A : List Int) (k : Int) (B : List Int), es (A ++ k :: B) = es (A ++ [k]) ++ es (k :: B)
  | [], k, B => by simp [es]
  | [a], k, B => by simp [es]
  | a :: b :: A, k, B => by
    have := es_app (b :: A) k B
    simp only [List.cons_append, es] at this ⊢
    rw [this]
theorem mem_es_rev : ∀ (w : List Int) (t : T), t ∈ es w.reverse ↔ t ∈ es w
  | [], t => by simp
  | [_], t => by simp
  | a :: b :: l, t => by
    have ih := mem_es_rev (b :: l) t
    rw [List.reverse_cons] at ih ⊢
    rw [List.reverse_cons, List.append_assoc, List.singleton_append, es_app, List.mem_append, ih]
    simp only [es, List.mem_cons, List.not_mem_nil, or_false]
    rw [tie_comm b a]
    exact Or.comm
theorem mem_es {t : T} : ∀ {w : List Int}, t ∈ es w → ∃ A k x B, w = A ++ k :: x :: B ∧ tie k x = t
  | [], h => by simp [es] at h
  | [_], h => by simp [es] at h
  | a :: b :: l, h => by
    simp only [es, List.mem_cons] at h
    rcases h with h | h
    · exact ⟨[], a, b, l, rfl, h.symm⟩
    · obtain ⟨A, k, x, B, e, ht⟩ := mem_es (w := b :: l) h
      exact ⟨a :: A, k, x, B, by rw [e]; rfl, ht⟩
theorem walk_es {E : List T} : ∀ {w : List Int}, Walk (Has E) w ↔ ∀ t ∈ es w, t ∈ E
  | [] => by simp [Walk, es]
  | [_] => by simp [Walk, es]
  | a :: b :: l => by
    rw [walk_cons, walk_es (w := b :: l)]
    simp only [es, List.mem_cons, forall_eq_or_imp]
    exact Iff.rfl
/-- A path: different knots, each tied to the next. -/
structure Path (E : List T) (a b : Int) (w : List Int) : Prop where
  nd : w.Nodup
  walk : Walk (Has E) w
  hd : w.head? = some a
  lst : w.getLast? = some b
theorem Path.mono {E F : List T} (h : ∀ t, t ∈ E → t ∈ F) {a b : Int} {w : List Int} (p : Path E a b w) : Path F a b w := ⟨p.nd, walk_mono (fun _ _ k => h _ k) w p.walk, p.hd, p.lst⟩
theorem Path.rev {E : List T} {a b : Int} {w : List Int} (p : Path E a b w) : Path E b a w.reverse :=
  ⟨List.pairwise_reverse.2 (p.nd.imp fun h => h.symm), walk_rev (fun _ _ k => k.symm) _ p.walk, by rw [List.head?_reverse]; exact p.lst, by rw [List.getLast?_reverse]; exact p.hd⟩
theorem Path.ne {E : List T} {a b : Int} {w : List Int} (p : Path E a b w) : w ≠ [] := by
  rintro rfl; have := p.hd; simp at this
theorem Path.memA {E : List T} {a b : Int} {w : List Int} (p : Path E a b w) : a ∈ w := List.mem_of_mem_head? (by rw [p.hd]; rfl)
theorem Path.memB {E : List T} {a b : Int} {w : List Int} (p : Path E a b w) : b ∈ w := List.mem_of_getLast? p.lst
theorem Path.single (E : List T) (a : Int) : Path E a a [a] := ⟨by simp, trivial, rfl, rfl⟩
/-- A path's head stands by itself. -/
theorem Path.cons_eq {E : List T} {a b : Int} {w : List Int} (p : Path E a b w) : ∃ r, w = a :: r := by
  cases w with
  | nil => exact absurd rfl p.ne
  | cons x r => have := p.hd; simp at this; exact ⟨r, by rw [this]⟩
/-- The way on from a knot of it. -/
theorem Path.drop {E : List T} {a b k : Int} {A B : List Int} (p : Path E a b (A ++ k :: B)) : Path E k b (k :: B) :=
  ⟨(List.nodup_append.1 p.nd).2.1, ((walk_app _ _ _ _).1 p.walk).2, rfl, by have := p.lst; rw [List.getLast?_append] at this; simpa using this⟩
theorem Path.take {E : List T} {a b k : Int} {A B : List Int} (p : Path E a b (A ++ k :: B)) : Path E a k (A ++ [k]) := by
  refine ⟨?_, ((walk_app _ _ _ _).1 p.walk).1, ?_, by simp⟩
  · have := p.nd
    rw [List.nodup_append] at this ⊢
    refine ⟨this.1, by simp, fun x hx y hy => ?_⟩
    simp only [List.mem_singleton] at hy
    subst hy
    exact this.2.2 x hx y (by simp)
  · have := p.hd
    cases A <;> simpa using this
/-- A knot ahead. -/
theorem Path.consP {E : List T} {k a b : Int} {w : List Int} (p : Path E a b w) (h : Has E k a) (hk : k ∉ w) : Path E k b (k :: w) := by
  obtain ⟨r, rfl⟩ := p.cons_eq
  exact ⟨List.nodup_cons.2 ⟨hk, p.nd⟩, ⟨h, p.walk⟩, rfl, by have := p.lst; simpa using this⟩
/-- Two paths that have one knot alone in common, put together. -/
theorem Path.append {E : List T} {a k b : Int} {A B : List Int} (p : Path E a k (A ++ [k])) (q : Path E k b (k :: B)) (h : ∀ x ∈ A, x ∉ B) : Path E a b (A ++ k :: B) := by
  refine ⟨?_, (walk_app _ _ _ _).2 ⟨p.walk, q.walk⟩, ?_, ?_⟩
  · rw [List.nodup_append]
    have hp := List.nodup_append.1 p.nd
    refine ⟨hp.1, q.nd, fun x hx y hy e => ?_⟩
    subst e
    rcases List.mem_cons.1 hy with rfl | hy
    · exact hp.2.2 x hx x (by simp) rfl
    · exact h x hx hy
  · have := p.hd
    cases A <;> simpa using this
  · have := q.lst
    rw [List.getLast?_append]
    simpa using this
theorem Path.conn {E : List T} : ∀ {w : List Int} {a b : Int}, Path E a b w → Conn E a b
  | [], a, b, p => absurd rfl p.ne
  | [x], a, b, p => by
    have h := p.hd; have l := p.lst
    simp at h l
    subst h; subst l
    exact .refl _
  | x :: y :: r, a, b, p => by
    have h := p.hd
    simp at h
    subst h
    have q : Path E y b (y :: r) := Path.drop (A := [x]) p
    exact (Conn.one p.walk.1).trans q.conn
theorem Path.conn_mem {E : List T} {w : List Int} {a b : Int} (p : Path E a b w) {x : Int} (hx : x ∈ w) : Conn E a x := by
  obtain ⟨A, B, rfl⟩ := List.append_of_mem hx
  exact p.take.conn
/-- What is come to is come to by a path. -/
theorem Conn.path {E : List T} {a b : Int} (h : Conn E a b) : ∃ w, Path E a b w := by
  induction h with
  | refl => exact ⟨_, Path.single _ _⟩
  | step _ m ih =>
    rename_i c d _
    obtain ⟨w, p⟩ := ih
    by_cases hd : d ∈ w
    · obtain ⟨A, B, rfl⟩ := List.append_of_mem hd
      exact ⟨_, p.take⟩
    · have := (p.rev.consP m.symm (by simpa using hd)).rev
      exact ⟨_, this⟩
/-- A path keeps off a knot that is none of its own. -/
theorem Path.off {E : List T} {a b v : Int} {w : List Int} (p : Path E a b w) (hv : v ∉ w) : Path (lessK E v) a b w := by
  refine ⟨p.nd, walk_es.2 (fun t ht => mem_less.2 ⟨walk_es.1 p.walk t ht, fun hk => ?_⟩), p.hd, p.lst⟩
  obtain ⟨A, k, x, B, rfl, rfl⟩ := mem_es ht
  have h1 : k ∈ A ++ k :: x :: B := by simp
  have h2 : x ∈ A ++ k :: x :: B := by simp
  rcases tie_ends (rfl : tie k x = tie k x) with ⟨e1, e2⟩ | ⟨e1, e2⟩ <;> rcases hk with hk | hk
  · exact hv (by rw [← hk, ← e1]; exact h1)
  · exact hv (by rw [← hk, ← e2]; exact h2)
  · exact hv (by rw [← hk, ← e2]; exact h2)
  · exact hv (by rw [← hk, ← e1]; exact h1)
/-- A path of a net without a knot: it is none of its knots, but as the start. -/
theorem not_mem_off {E : List T} {a b v : Int} {w : List Int} (p : Path (lessK E v) a b w) (ha : a ≠ v) : v ∉ w := by
  intro hv
  have hc := p.conn_mem hv
  rcases hc.symm.first with e | ⟨c, h, _⟩
  · exact ha e.symm
  · have := (mem_less.1 h).2
    refine this ?_
    rcases tie_ends (rfl : tie v c = tie v c) with ⟨e1, _⟩ | ⟨e1, _⟩
    · exact Or.inl e1.symm
    · exact Or.inr e1.symm
theorem conn_off_ne {E : List T} {a b v : Int} (h : Conn (lessK E v) a b) (ha : a ≠ v) : b ≠ v := by
  rintro rfl
  obtain ⟨w, p⟩ := h.path
  exact not_mem_off p ha p.memB
def On (t : T) (x : Int) : Prop := x = t.f0 ∨ x = t.f1
theorem on_tie {a b x : Int} : On (tie a b) x ↔ x = a ∨ x = b := by
  unfold On tie
  split
  · exact Iff.rfl
  · exact Or.comm
/-- No knot parts them. -/
def Bl (E : List T) (s t : T) : Prop := ∀ v, ∃ x y, On s x ∧ x ≠ v ∧ On t y ∧ y ≠ v ∧ Conn (lessK E v) x y
/-- Two ends of a tie hang together without a knot that is none of them. -/
theorem on_conn {n : Int} {E : List T} (h : OK n E) {t : T} (ht : t ∈ E) {v x y : Int} (hx : On t x) (hxv : x ≠ v) (hy : On t y) (hyv : y ≠ v) : Conn (lessK E v) x y := by
  by_cases e : x = y
  · subst e; exact .refl _
  · have hm : t ∈ lessK E v := by
      refine mem_less.2 ⟨ht, fun k => ?_⟩
      rcases hx with rfl | rfl <;> rcases hy with rfl | rfl <;> rcases k with k | k <;> first | exact e rfl | exact hxv k | exact hyv k
    have hh := has_of_mem (h.less (AtK v)) hm
    rcases hx with rfl | rfl <;> rcases hy with rfl | rfl
    · exact .refl _
    · exact .one hh
    · exact .one hh.symm
    · exact .refl _
theorem Bl.symm {E : List T} {s t : T} (h : Bl E s t) : Bl E t s := fun v => by
  obtain ⟨x, y, a, b, c, d, e⟩ := h v
  exact ⟨y, x, c, d, a, b, e.symm⟩
theorem Bl.refl {n : Int} {E : List T} (h : OK n E) {t : T} (ht : t ∈ E) : Bl E t t := fun v => by
  have := h.tie t ht
  by_cases e : t.f0 = v
  · exact ⟨t.f1, t.f1, Or.inr rfl, by omega, Or.inr rfl, by omega, .refl _⟩
  · exact ⟨t.f0, t.f0, Or.inl rfl, e, Or.inl rfl, e, .refl _⟩
theorem Bl.trans {n : Int} {E : List T} (h : OK n E) {s t u : T} (ht : t ∈ E) (p : Bl E s t) (q : Bl E t u) : Bl E s u := fun v => by
  obtain ⟨x, y, a, b, c, d, e⟩ := p v
  obtain ⟨x', y', a', b', c', d', e'⟩ := q v
  exact ⟨x, y', a, b, c', d', (e.trans (on_conn h ht c d a' b')).trans e'⟩
/-- Two ties that meet, and hang together without the knot where they meet. -/
def Side (E : List T) (s t : T) : Prop := ∃ k x y, s = tie k x ∧ t = tie k y ∧ x ≠ k ∧ y ≠ k ∧ Conn (lessK E k) x y
theorem Side.symm {E : List T} {s t : T} (h : Side E s t) : Side E t s := by
  obtain ⟨k, x, y, a, b, c, d, e⟩ := h
  exact ⟨k, y, x, b, a, d, c, e.symm⟩
theorem Side.bl {E : List T} {s t : T} (h : Side E s t) : Bl E s t := fun v => by
  obtain ⟨k, x, y, rfl, rfl, c, d, e⟩ := h
  by_cases hv : k = v
  · subst hv
    exact ⟨x, y, on_tie.2 (Or.inr rfl), c, on_tie.2 (Or.inr rfl), d, e⟩
  · exact ⟨k, k, on_tie.2 (Or.inl rfl), hv, on_tie.2 (Or.inl rfl), hv, .refl _⟩
/-- Steps from tie to tie. -/
inductive Chain (E : List T) (s : T) : T → Prop
  | refl : Chain E s s
  | step {t u : T} : Chain E s t → u ∈ E → Side E t u → Chain E s u
theorem Chain.mem {E : List T} {s t : T} (h : Chain E s t) (hs : s ∈ E) : t ∈ E := by
  cases h with
  | refl => exact hs
  | step _ h _ => exact h
theorem Chain.bl {n : Int} {E : List T} (h : OK n E) {s t : T} (hs : s ∈ E) (c : Chain E s t) : Bl E s t := by
  induction c with
  | refl => exact Bl.refl h hs
  | step c _ k ih => exact ih.trans h (c.mem hs) k.bl
/-- From a tie of one block with t, along a path, to t. 'pre': how the path came so far. -/
theorem chain_path {n : Int} {E : List T} (h : OK n E) {s t : T} (hs : s ∈ E) (ht : t ∈ E) (hb : Bl E s t) {y : Int} (hy : On t y) :
    ∀ (B A : List Int) (k p x0 : Int) (e : T), Path E x0 y (A ++ k :: B) → On s x0 → Chain E s e → e = tie k p → p ≠ k → (∀ x, On s x → x ≠ k → Conn (lessK E k) x p) → Chain E s t
  | [], A, k, p, x0, e, P, hx0, hc, he, hp, hpre => by
    have hk : k = y := by have := P.lst; simpa using this
    subst hk
    -- t itself is the last one
    obtain ⟨q, hq, hqk⟩ : ∃ q, t = tie k q ∧ q ≠ k := by
      have := h.tie t ht
      rcases hy with e | e
      · exact ⟨t.f1, by rw [e, tie_self h ht], by omega⟩
      · exact ⟨t.f0, by rw [e, tie_comm, tie_self h ht], by omega⟩
    obtain ⟨x', y', a, b, c, d, f⟩ := hb k
    have hyq : y' = q := by
      rw [hq] at c
      rcases on_tie.1 c with c | c
      · exact absurd c d
      · exact c
    subst hyq
    exact .step hc ht ⟨k, p, y', he, hq, hp, hqk, (hpre x' a b).symm.trans f⟩
  | q :: B, A, k, p, x0, e, P, hx0, hc, he, hp, hpre => by
    have hw := P.walk
    have hkq : Has E k q := ((walk_app _ _ _ _).1 hw).2.1
    have hne := h.has hkq
    have P' : Path E x0 y ((A ++ [k]) ++ q :: B) := by simpa using P
    -- behind k the path leads on to t
    have hpost : Path (lessK E k) q y (q :: B) := P'.drop.off (by
      have := (List.nodup_append.1 P.nd).2.1
      exact (List.nodup_cons.1 this).1)
    obtain ⟨x', y', a, b, c, d, f⟩ := hb k
    have hyk : y ≠ k := conn_off_ne hpost.conn hne.2.2.symm
    have hq' : Conn (lessK E k) y' q := (on_conn h ht c d hy hyk).trans hpost.conn.symm
    have hside : Side E e (tie k q) := ⟨k, p, q, he, rfl, hp, hne.2.2.symm, (hpre x' a b).symm.trans (f.trans hq')⟩
    refine chain_path h hs ht hb hy B (A ++ [k]) q k x0 (tie k q) P' hx0 (.step hc hkq hside) (tie_comm _ _) hne.2.2 (fun x hx hxq => ?_)
    -- ahead of q the path comes from s
    have hpre2 : Path (lessK E q) x0 k (A ++ [k]) := P.take.off (by
      have := P'.nd
      rw [List.nodup_append] at this
      exact fun m => this.2.2 q m q (by simp) rfl)
    have hx0q : x0 ≠ q := fun e => by
      have h1 := hpre2.memA
      have := P'.nd
      rw [List.nodup_append] at this
      exact this.2.2 x0 h1 q (by simp) e
    exact (on_conn h hs hx hxq hx0 hx0q).trans hpre2.conn
theorem Bl.chain {n : Int} {E : List T} (h : OK n E) {s t : T} (hs : s ∈ E) (ht : t ∈ E) (hb : Bl E s t) : Chain E s t := by
  obtain ⟨x, y, hx, _, hy, _, hc⟩ := hb (-1)
  obtain ⟨w, P⟩ := (hc.mono fun t ht => (mem_less.1 ht).1).path
  obtain ⟨r, rfl⟩ := P.cons_eq
  obtain ⟨p, hp, hpx⟩ : ∃ p, s = tie x p ∧ p ≠ x := by
    have := h.tie s hs
    rcases hx with e | e
    · exact ⟨s.f1, by rw [e, tie_self h hs], by omega⟩
    · exact ⟨s.f0, by rw [e, tie_comm, tie_self h hs], by omega⟩
  refine chain_path h hs ht hb hy r [] x p x s P hx .refl hp hpx (fun x' hx' hne => ?_)
  rw [hp] at hx'
  rcases on_tie.1 hx' with e | e
  · exact absurd e hne
  · subst e; exact .refl _
/-- s is t, or a path leads over s from one end of t to the other, without t. -/
def CC (E : List T) (t s : T) : Prop := s = t ∨ ∃ w, Path (less E (· = t)) t.f0 t.f1 w ∧ s ∈ es w
theorem mem_of_es {E : List T} {a b : Int} {w : List Int} {s : T} (p : Path E a b w) (h : s ∈ es w) : s ∈ E := walk_es.1 p.walk s h
theorem CC.mem {E : List T} {s t : T} (h : CC E t s) (ht : t ∈ E) : s ∈ E := by
  rcases h with rfl | ⟨w, p, hs⟩
  · exact ht
  · exact (mem_less.1 (mem_of_es p hs)).1
/-- A path's knots but one hang together with the path's ends that stay. -/
theorem CC.bl {n : Int} {E : List T} (h : OK n E) {s t : T} (ht : t ∈ E) (c : CC E t s) : Bl E t s := by
  rcases c with rfl | ⟨w, p, hs⟩
  · exact Bl.refl h ht
  intro v
  have hte := h.tie t ht
  have pE : Path E t.f0 t.f1 w := p.mono fun _ hm => (mem_less.1 hm).1
  obtain ⟨A, k, x, B, rfl, rfl⟩ := mem_es hs
  have hnd := pE.nd
  by_cases hv : v ∈ A ++ k :: x :: B
  · -- v on it: ahead of the tie, on it, behind it
    have hnd' := List.nodup_append.1 hnd
    by_cases hA : v ∈ A ++ [k]
    · -- x and all behind it are free of v
      have hxB : v ∉ x :: B := fun m => by
        have h2 : ((A ++ [k]) ++ x :: B).Nodup := by simpa using hnd
        exact (List.nodup_append.1 h2).2.2 v hA v m rfl
      have q : Path E x t.f1 (x :: B) := Path.drop (A := A ++ [k]) (by simpa using pE)
      have q' := q.off hxB
      have hxv : x ≠ v := fun e => hxB (by rw [← e]; simp)
      exact ⟨t.f1, x, Or.inr rfl, conn_off_ne q'.conn hxv, on_tie.2 (Or.inr rfl), hxv, q'.conn.symm⟩
    · have q : Path E t.f0 k (A ++ [k]) := pE.take
      have q' := q.off hA
      have hkv : k ≠ v := fun e => hA (by rw [← e]; simp)
      have h0 : t.f0 ≠ v := fun e => hA (by rw [← e]; exact q.memA)
      exact ⟨t.f0, k, Or.inl rfl, h0, on_tie.2 (Or.inl rfl), hkv, q'.conn⟩
  · have q' := pE.off hv
    have h0 : t.f0 ≠ v := fun e => hv (by rw [← e]; exact pE.memA)
    exact ⟨t.f0, k, Or.inl rfl, h0, on_tie.2 (Or.inl rfl), fun e => hv (by rw [← e]; simp), q'.conn_mem (by simp)⟩
/-- The first knot of a row that is one of some. -/
theorem first_in (S : List Int) : ∀ w : List Int, (∃ x ∈ w, x ∈ S) → ∃ A z B, w = A ++ z :: B ∧ z ∈ S ∧ ∀ x ∈ A, x ∉ S
  | [], h => by simp at h
  | a :: l, h => by
    by_cases ha : a ∈ S
    · exact ⟨[], a, l, rfl, ha, by simp⟩
    · obtain ⟨A, z, B, e, hz, hA⟩ := first_in S l (by
        obtain ⟨x, hx, hs⟩ := h
        rcases List.mem_cons.1 hx with rfl | hx
        · exact absurd hs ha
        · exact ⟨x, hx, hs⟩)
      refine ⟨a :: A, z, B, by rw [e]; rfl, hz, fun x hx => ?_⟩
      rcases List.mem_cons.1 hx with rfl | hx
      · exact ha
      · exact hA x hx
/-- Two knots of a row, in their order. -/
theorem two_in {w : List Int} {k z : Int} (hk : k ∈ w) (hz : z ∈ w) (hne : k ≠ z) : (∃ A M C, w = A ++ k :: (M ++ z :: C)) ∨ ∃ A M C, w = A ++ z :: (M ++ k :: C) := by
  obtain ⟨A, B, rfl⟩ := List.append_of_mem hk
  rcases List.mem_append.1 hz with h | h
  · obtain ⟨A1, A2, rfl⟩ := List.append_of_mem h
    exact Or.inr ⟨A1, A2, B, by simp⟩
  · rcases List.mem_cons.1 h with h | h
    · exact absurd h.symm hne
    · obtain ⟨B1, B2, rfl⟩ := List.append_of_mem h
      exact Or.inl ⟨A, B1, B2, rfl⟩
/-- An ear takes the place of what lies between its ends. -/
theorem ear {F : List T} {a b k z : Int} {A M C Q : List Int} (p : Path F a b (A ++ k :: (M ++ z :: C))) (q : Path F k z (k :: (Q ++ [z]))) (hQ : ∀ x ∈ Q, x ∉ A ++ k :: (M ++ z :: C)) : Path F a b (A ++ k :: (Q ++ z :: C)) := by
  have p1 : Path F a k (A ++ [k]) := p.take
  have p2 : Path F z b (z :: C) := Path.drop (A := A ++ k :: M) (by simpa using p)
  have q2 : Path F k b (k :: (Q ++ z :: C)) := by
    have := Path.append (A := k :: Q) (B := C) (by simpa using q) p2 (fun x hx hc => by
      rcases List.mem_cons.1 hx with rfl | hx
      · have := (List.nodup_cons.1 (List.nodup_append.1 p.nd).2.1).1
        exact this (by simp [hc])
      · exact hQ x hx (by simp [hc]))
    simpa using this
  refine p1.append q2 (fun x hx hm => ?_)
  rcases List.mem_append.1 hm with h | h
  · exact hQ x h (by simp [hx])
  · exact (List.nodup_append.1 p.nd).2.2 x hx x (by
      rcases List.mem_cons.1 h with rfl | h <;> simp [*]) rfl
theorem CC.step {n : Int} {E : List T} (h : OK n E) {t e f : T} (ht : t ∈ E) (c : CC E t e) (hf : f ∈ E) (hs : Side E e f) : CC E t f := by
  by_cases hft : f = t
  · exact Or.inl hft
  obtain ⟨k, x, y, rfl, rfl, hx, hy, hc⟩ := hs
  obtain ⟨q, Q⟩ := hc.symm.path
  have hkq : k ∉ q := not_mem_off Q hy
  have hte := h.tie t ht
  have hfF : Has (less E (· = t)) k y := mem_less.2 ⟨hf, hft⟩
  rcases c with e | ⟨w, P, he⟩
  · -- the tie itself: the ring is closed by it
    have QF : Path (less E (· = t)) y x q := Q.mono (fun u hu => mem_less.2 ⟨(mem_less.1 hu).1, fun e' => (mem_less.1 hu).2 (by
      rcases tie_ends e with ⟨a, _⟩ | ⟨a, _⟩
      · exact Or.inl (by rw [e', ← a])
      · exact Or.inr (by rw [e', ← a]))⟩)
    have P := QF.consP hfF hkq
    have hm : tie k y ∈ es (k :: q) := by
      obtain ⟨r, rfl⟩ := Q.cons_eq
      simp [es]
    rcases tie_ends e with ⟨a, b⟩ | ⟨a, b⟩
    · exact Or.inr ⟨_, by rw [← a, ← b]; exact P, hm⟩
    · exact Or.inr ⟨_, by rw [← a, ← b]; exact P.rev, (mem_es_rev _ _).2 hm⟩
  · have hkw : k ∈ w := by
      obtain ⟨A, k', x', B, rfl, e'⟩ := mem_es he
      rcases tie_inj e' with ⟨a, _⟩ | ⟨_, b⟩
      · rw [← a]; simp
      · rw [← b]; simp
    have hxw : x ∈ w := by
      obtain ⟨A, k', x', B, rfl, e'⟩ := mem_es he
      rcases tie_inj e' with ⟨_, b⟩ | ⟨a, _⟩
      · rw [← b]; simp
      · rw [← a]; simp
    obtain ⟨Q1, z, Q2, rfl, hz, hQ1⟩ := first_in w q ⟨x, Q.memB, hxw⟩
    have hkz : k ≠ z := fun e' => hkq (by rw [e']; simp)
    have Q' : Path (lessK E k) y z (Q1 ++ [z]) := Q.take
    -- none of its ties is t: one end of each but the first is off the path; and the first is f
    have QF : Path (less E (· = t)) y z (Q1 ++ [z]) := by
      refine ⟨Q'.nd, walk_es.2 (fun u hu => mem_less.2 ⟨(mem_less.1 (mem_of_es Q' hu)).1, fun e' => ?_⟩), Q'.hd, Q'.lst⟩
      subst e'
      obtain ⟨A, k', x', B, e2, e3⟩ := mem_es hu
      have hk' : k' ∈ Q1 := by
        have : Q1 = A ++ k' :: (x' :: B).dropLast := by
          have h1 := congrArg List.dropLast e2
          rw [List.dropLast_concat] at h1
          rw [h1, List.dropLast_append_of_ne_nil (by simp), List.dropLast_cons_of_ne_nil (by simp)]
        rw [this]; simp
      have hoff := hQ1 k' hk'
      rcases tie_ends e3 with ⟨a, _⟩ | ⟨a, _⟩
      · exact hoff (by rw [a]; exact P.memA)
      · exact hoff (by rw [a]; exact P.memB)
    have hkQ : k ∉ Q1 ++ [z] := not_mem_off Q' hy
    have QK : Path (less E (· = t)) k z (k :: (Q1 ++ [z])) := QF.consP hfF hkQ
    have hm : ∀ C : List Int, tie k y ∈ es (k :: (Q1 ++ z :: C)) := fun C => by
      have := Q'.hd
      cases Q1 with
      | nil => simp at this; subst this; simp [es]
      | cons a r => simp at this; subst this; simp [es]
    rcases two_in hkw hz hkz with ⟨A, M, C, rfl⟩ | ⟨A, M, C, rfl⟩
    · refine Or.inr ⟨_, ear P QK hQ1, ?_⟩
      rw [es_app]
      exact List.mem_append.2 (Or.inr (hm C))
    · have P' : Path (less E (· = t)) t.f1 t.f0 (C.reverse ++ k :: (M.reverse ++ z :: A.reverse)) := by
        have := P.rev
        simpa using this
      have R := ear P' QK (fun x hx hn => hQ1 x hx (by
        simp only [List.mem_append, List.mem_cons, List.mem_reverse] at hn ⊢
        rcases hn with a | a | a | a | a <;> simp [a]))
      refine Or.inr ⟨_, R.rev, (mem_es_rev _ _).2 ?_⟩
      rw [es_app]
      exact List.mem_append.2 (Or.inr (hm A.reverse))
/-- The three are one. -/
theorem cc_iff {n : Int} {E : List T} (h : OK n E) {s t : T} (ht : t ∈ E) (hs : s ∈ E) : CC E t s ↔ Bl E t s := by
  refine ⟨CC.bl h ht, fun hb => ?_⟩
  have hc := hb.chain h ht hs
  clear hb hs
  induction hc with
  | refl => exact Or.inl rfl
  | step c hu hside ih => exact ih.step h ht hu hside
end Go.Proofs.Ytffflhmblelegaa.Th
namespace Go.Proofs.Ytffflhmblelegaa.Th
open Go.RowKit Go.Proofs.YtffflhmblelegaaW.PrintWords Go.Proofs.YtffflhmblelegaaW.PrintLast Go.Proofs.YtffflhmblelegaaW.PrintMore Go.Proofs.Ytffflhmblelegaa.F Classical
noncomputable def waysR (n : Int) (E : List T) (b : Int) : Nat → List Int → List (List Int)
  | 0, w => if rd w ((w.length : Int) - 1) = b then [w] else []
  | d + 1, w => if rd w ((w.length : Int) - 1) = b then [w] else (ks n).flatMap (fun k => if Has E (rd w ((w.length : Int) - 1)) k ∧ k ∉ w then waysR n E b d (w ++ [k]) else [])
theorem flatMap_length_le {α β : Type} (f : α → List β) (m : Nat) : ∀ l : List α, (∀ x ∈ l, (f x).length ≤ m) → (l.flatMap f).length ≤ l.length * m
  | [], _ => by simp
  | x :: l, h => by
    rw [List.flatMap_cons, List.length_append, List.length_cons, Nat.succ_mul]
    have := h x (by simp)
    have := flatMap_length_le f m l (fun y hy => h y (List.mem_cons_of_mem _ hy))
    omega
theorem waysR_length {n : Int} (hn : n ≤ 8) (E : List T) (b : Int) : ∀ (d : Nat) (w : List Int), (waysR n E b d w).length ≤ 8 ^ d := by
  intro d
  induction d with
  | zero => intro w; simp only [waysR]; split <;> simp
  | succ d ih =>
    intro w
    simp only [waysR]
    split
    · have : 1 ≤ 8 ^ (d + 1) := Nat.pos_of_ne_zero (by simp)
      simpa using this
    · have h1 := flatMap_length_le (fun k => if Has E (rd w ((w.length : Int) - 1)) k ∧ k ∉ w then waysR n E b d (w ++ [k]) else []) (8 ^ d) (ks n) (fun k _ => by
        split
        · exact ih _
        · simp)
      have h2 : (ks n).length ≤ 8 := by rw [ks_length]; omega
      have h3 : (ks n).length * 8 ^ d ≤ 8 * 8 ^ d := Nat.mul_le_mul_right _ h2
      rw [Nat.pow_succ]
      omega
theorem nodup_in_length {n : Int} {w : List Int} (hn : w.Nodup) (hi : ∀ x ∈ w, In n x) : w.length ≤ n.toNat := by
  have h := List.Nodup.length_le_of_subset hn (l₂ := ks n) (fun x hx => mem_ks.2 (hi x hx))
  rwa [ks_length] at h
theorem nodup_snoc {w : List Int} {k : Int} (hn : w.Nodup) (hk : k ∉ w) : (w ++ [k]).Nodup := by
  unfold List.Nodup at *
  rw [List.pairwise_append]
  exact ⟨hn, by simp, fun x hx y hy e => hk (by rw [List.mem_singleton] at hy; subst hy; subst e; exact hx)⟩
theorem ev_ways {n : Int} {E : List T} {b : Int} (h : OK n E) : ∀ (d : Nat) (w : List Int) (out : List (List Int)), w.Nodup → w ≠ [] → (∀ x ∈ w, In n x) → w.length + d = n.toNat → out.length + 8 ^ d ≤ 1000000000 →
    Ev (fun k => impl_Net_ways.f k n E w b out) (out ++ waysR n E b d w) := by
  have hE := h.length
  have h8 := h.n8
  intro d
  induction d with
  | zero =>
    intro w out hn hw hi hd ho
    have hl : 0 < w.length := List.length_pos_iff.2 hw
    have hl8 : w.length ≤ 8 := by omega
    refine Ev.succ ?_
    simp only [impl_Net_ways.f]
    rw [w64 (by omega)]
    refine Ev.pos (by omega) (Ev.pos (by omega) ?_)
    simp only [waysR]
    by_cases e : rd w ((w.length : Int) - 1) = b
    · rw [if_pos e]
      refine Ev.pos e ?_
      refine Ev.bind0 (a := w) (by unfold slices_Clone_int_int.f; rw [if_pos (by omega)]) ?_
      refine Ev.pos (by omega) ?_
      exact Ev.now _
    · rw [if_neg e, List.append_nil]
      refine Ev.neg e ?_
      suffices hs : ∀ (m : Nat) (i : Int), 0 ≤ i → i + m = n → Ev (fun k => impl_Net_ways.l0 k w b out (rd w ((w.length : Int) - 1)) n i n E) out from hs n.toNat 0 (by omega) (by omega)
      intro m
      induction m with
      | zero =>
        intro i h0 hi'
        refine Ev.succ ?_
        simp only [impl_Net_ways.l0]
        exact Ev.neg (by omega) (Ev.now _)
      | succ m ihm =>
        intro i h0 hi'
        have hin : i ∈ w := by
          refine Classical.byContradiction (fun hni => ?_)
          have := nodup_in_length (n := n) (nodup_snoc hn hni) (fun x hx => by
            rw [List.mem_append, List.mem_singleton] at hx
            rcases hx with hx | hx
            · exact hi x hx
            · subst hx; exact ⟨h0, by omega⟩)
          rw [List.length_append, List.length_singleton] at this
          omega
        have hnext : Ev (fun k => impl_Net_ways.j1 k w b out (rd w ((w.length : Int) - 1)) i n i false n E) out := by
          refine Ev.succ ?_
          simp only [impl_Net_ways.j1]
          refine Ev.neg (by simp) ?_
          rw [w64 (by omega)]
          exact ihm (i + 1) (by omega) (by omega)
        refine Ev.succ ?_
        simp only [impl_Net_ways.l0]
        refine Ev.pos (by omega) ?_
        refine Ev.bind (ev_has n E (rd w ((w.length : Int) - 1)) i (by omega)) ?_
        by_cases hh : Has E (rd w ((w.length : Int) - 1)) i
        · rw [dec_t hh]
          refine Ev.pos rfl ?_
          refine Ev.bind (ev_containsInt w i (by omega)) ?_
          rw [dec_t hin]
          exact hnext
        · rw [dec_f hh]
          exact Ev.neg (by simp) hnext
  | succ d ih =>
    intro w out hn hw hi hd ho
    have hl : 0 < w.length := List.length_pos_iff.2 hw
    have hl8 : w.length ≤ 8 := by omega
    have hp : 8 ^ (d + 1) = 8 * 8 ^ d := by rw [Nat.pow_succ]; omega
    have hp1 : 1 ≤ 8 ^ d := Nat.pos_of_ne_zero (by simp)
    refine Ev.succ ?_
    simp only [impl_Net_ways.f]
    rw [w64 (by omega)]
    refine Ev.pos (by omega) (Ev.pos (by omega) ?_)
    simp only [waysR]
    by_cases e : rd w ((w.length : Int) - 1) = b
    · rw [if_pos e]
      refine Ev.pos e ?_
      refine Ev.bind0 (a := w) (by unfold slices_Clone_int_int.f; rw [if_pos (by omega)]) ?_
      refine Ev.pos (by omega) ?_
      exact Ev.now _
    · rw [if_neg e]
      refine Ev.neg e ?_
      have hloop : ∀ (m : Nat) (i : Int) (o : List (List Int)), 0 ≤ i → i + m = n → o.length + m * 8 ^ d ≤ 1000000000 → Ev (fun k => impl_Net_ways.l0 k w b o (rd w ((w.length : Int) - 1)) n i n E) (o ++ (ksFrom n i).flatMap (fun k => if Has E (rd w ((w.length : Int) - 1)) k ∧ k ∉ w then waysR n E b d (w ++ [k]) else [])) := by
        intro m
        induction m with
        | zero =>
          intro i o h0 hi' _
          refine Ev.succ ?_
          simp only [impl_Net_ways.l0]
          rw [ksFrom_end (by omega)]
          simp only [List.flatMap_nil, List.append_nil]
          exact Ev.neg (by omega) (Ev.now _)
        | succ m ihm =>
          intro i o h0 hi' hb
          have hb' : o.length + (m * 8 ^ d + 8 ^ d) ≤ 1000000000 := by rw [Nat.succ_mul] at hb; exact hb
          rw [ksFrom_cons h0 (by omega), List.flatMap_cons]
          have hskip : Ev (fun k => impl_Net_ways.j1 k w b o (rd w ((w.length : Int) - 1)) i n i false n E) (o ++ (ksFrom n (i + 1)).flatMap (fun k => if Has E (rd w ((w.length : Int) - 1)) k ∧ k ∉ w then waysR n E b d (w ++ [k]) else [])) := by
            refine Ev.succ ?_
            simp only [impl_Net_ways.j1]
            refine Ev.neg (by simp) ?_
            rw [w64 (by omega)]
            exact ihm (i + 1) o (by omega) (by omega) (by omega)
          refine Ev.succ ?_
          simp only [impl_Net_ways.l0]
          refine Ev.pos (by omega) ?_
          refine Ev.bind (ev_has n E (rd w ((w.length : Int) - 1)) i (by omega)) ?_
          by_cases hh : Has E (rd w ((w.length : Int) - 1)) i
          · rw [dec_t hh]
            refine Ev.pos rfl ?_
            refine Ev.bind (ev_containsInt w i (by omega)) ?_
            by_cases hin : i ∈ w
            · rw [dec_t hin, if_neg (fun k => k.2 hin), List.nil_append]
              exact hskip
            · rw [dec_f hin, if_pos ⟨hh, hin⟩]
              refine Ev.succ ?_
              simp only [impl_Net_ways.j1]
              refine Ev.pos rfl ?_
              refine Ev.bind0 (a := w) (by unfold slices_Clone_int_int.f; rw [if_pos (by omega)]) ?_
              refine Ev.bind0 (a := [i]) rfl ?_
              refine Ev.pos (by simp; omega) ?_
              have hl1 := waysR_length (n := n) (by omega) E b d (w ++ [i])
              refine Ev.bind (ih (w ++ [i]) o (nodup_snoc hn hin) (by simp) (fun x hx => ?_) (by simp; omega) (by omega)) ?_
              · rw [List.mem_append, List.mem_singleton] at hx
                rcases hx with hx | hx
                · exact hi x hx
                · subst hx; exact ⟨h0, by omega⟩
              · rw [w64 (by omega), ← List.append_assoc]
                exact ihm (i + 1) _ (by omega) (by omega) (by rw [List.length_append]; omega)
          · rw [dec_f hh, if_neg (fun k => hh k.1), List.nil_append]
            exact Ev.neg (by simp) hskip
      have := hloop n.toNat 0 out (by omega) (by omega) (by
        have : n.toNat * 8 ^ d ≤ 8 * 8 ^ d := Nat.mul_le_mul_right _ (by omega)
        omega)
      rw [ksFrom_zero] at this
      exact this
theorem rd_last_eq {w : List Int} {a : Int} {r : List Int} (e : w = r ++ [a]) : rd w ((w.length : Int) - 1) = a := by
  subst e
  rw [show (((r ++ [a]).length : Int) - 1) = ((r.length : Nat) : Int) by simp, rd_nat]
  simp
theorem mem_waysR {n : Int} {E : List T} {b : Int} (h : OK n E) : ∀ (d : Nat) (r : List Int) (a : Int) (u : List Int), (r ++ [a]).Nodup → (∀ x ∈ r ++ [a], In n x) → r.length + 1 + d = n.toNat →
    (u ∈ waysR n E b d (r ++ [a]) ↔ ∃ v, u = r ++ v ∧ u.Nodup ∧ Path E a b v) := by
  intro d
  induction d with
  | zero =>
    intro r a u hn hi hd
    simp only [waysR]
    rw [rd_last_eq rfl]
    constructor
    · intro hu
      split at hu
      · next e =>
        subst e
        rw [List.mem_singleton] at hu
        subst hu
        exact ⟨[a], rfl, hn, Path.single E a⟩
      · exact absurd hu (by simp)
    · rintro ⟨v, rfl, hnd, p⟩
      obtain ⟨s, rfl⟩ := p.cons_eq
      cases s with
      | nil =>
        have hb : a = b := by have := p.lst; simpa using this
        rw [if_pos hb]
        simp
      | cons c s =>
        exfalso
        have hc : In n c := (h.has p.walk.1).2.1
        have hcn : c ∉ r ++ [a] := by
          intro hc'
          rw [show r ++ a :: c :: s = (r ++ [a]) ++ c :: s by simp] at hnd
          exact (List.nodup_append.1 hnd).2.2 c hc' c (by simp) rfl
        have := nodup_in_length (n := n) (nodup_snoc hn hcn) (fun x hx => by
          rw [List.mem_append, List.mem_singleton] at hx
          rcases hx with hx | hx
          · exact hi x hx
          · subst hx; exact hc)
        simp at this
        omega
  | succ d ih =>
    intro r a u hn hi hd
    simp only [waysR]
    rw [rd_last_eq rfl]
    constructor
    · intro hu
      split at hu
      · next e =>
        subst e
        rw [List.mem_singleton] at hu
        subst hu
        exact ⟨[a], rfl, hn, Path.single E a⟩
      · obtain ⟨k, hk, hu⟩ := List.mem_flatMap.1 hu
        split at hu
        · next hc =>
          have hkn := mem_ks.1 hk
          obtain ⟨v, e, hnd, p⟩ := (ih (r ++ [a]) k u (nodup_snoc hn hc.2) (fun x hx => by
            rw [List.mem_append, List.mem_singleton] at hx
            rcases hx with hx | hx
            · exact hi x hx
            · subst hx; exact hkn) (by simp; omega)).1 hu
          refine ⟨a :: v, by rw [e]; simp, hnd, p.consP hc.1 (fun ha => ?_)⟩
          rw [e] at hnd
          exact (List.nodup_append.1 hnd).2.2 a (by simp) a ha rfl
        · exact absurd hu (by simp)
    · rintro ⟨v, rfl, hnd, p⟩
      obtain ⟨s, rfl⟩ := p.cons_eq
      cases s with
      | nil =>
        have hb : a = b := by have := p.lst; simpa using this
        rw [if_pos hb]
        simp
      | cons c s =>
        have hcn : c ∉ r ++ [a] := by
          intro hc'
          rw [show r ++ a :: c :: s = (r ++ [a]) ++ c :: s by simp] at hnd
          exact (List.nodup_append.1 hnd).2.2 c hc' c (by simp) rfl
        have hab : a ≠ b := by
          intro e
          have hb := p.lst
          rw [List.getLast?_cons_cons] at hb
          have := List.mem_of_getLast? hb
          have hx := p.nd
          rw [List.nodup_cons] at hx
          exact hx.1 (e ▸ this)
        rw [if_neg hab]
        have hc : In n c := (h.has p.walk.1).2.1
        refine List.mem_flatMap.2 ⟨c, mem_ks.2 hc, ?_⟩
        rw [if_pos ⟨p.walk.1, hcn⟩]
        refine (ih (r ++ [a]) c _ (nodup_snoc hn hcn) (fun x hx => by
            rw [List.mem_append, List.mem_singleton] at hx
            rcases hx with hx | hx
            · exact hi x hx
            · subst hx; exact hc) (by simp; omega)).2 ⟨c :: s, by simp, hnd, ?_⟩
        exact Path.drop (A := [a]) p
noncomputable def allW (n : Int) (E : List T) (a b : Int) : List (List Int) := sortW (waysR n E b (n.toNat - 1) [a])
theorem mem_allW {n : Int} {E : List T} {a b : Int} (h : OK n E) (ha : In n a) {w : List Int} : w ∈ allW n E a b ↔ Path E a b w := by
  unfold allW
  rw [(sortW_perm _).mem_iff, show [a] = [] ++ [a] from rfl, mem_waysR h (n.toNat - 1) [] a w (by simp) (by simpa using ha) (by simp; have := ha.1; have := ha.2; omega)]
  exact ⟨fun ⟨v, e, _, p⟩ => by rw [e]; exact p, fun p => ⟨w, rfl, p.nd, p⟩⟩
theorem Path.len {n : Int} {E : List T} {a b : Int} {w : List Int} (h : OK n E) (ha : In n a) (p : Path E a b w) : w.length ≤ 8 := by
  have := nodup_in_length (n := n) p.nd (fun x hx => (p.conn_mem hx).inNet h ha)
  have := h.n8
  omega
theorem allW_len {n : Int} {E : List T} {a b : Int} (h : OK n E) (ha : In n a) : (allW n E a b).length ≤ 1000000000 ∧ ∀ w ∈ allW n E a b, w.length ≤ 8 := by
  refine ⟨?_, fun w hw => ((mem_allW h ha).1 hw).len h ha⟩
  unfold allW
  rw [(sortW_perm _).length_eq]
  have h1 := waysR_length (n := n) (by have := h.n8; omega) E b (n.toNat - 1) [a]
  have h2 : 8 ^ (n.toNat - 1) ≤ 8 ^ 7 := Nat.pow_le_pow_right (by omega) (by have := h.n8; omega)
  have h3 : (8 : Nat) ^ 7 ≤ 1000000000 := by decide
  omega
theorem ev_all {n : Int} {E : List T} {a b : Int} (h : OK n E) (ha : In n a) : Ev (fun k => impl_Net_all.f k n E a b) (allW n E a b) := by
  have hw := ev_ways (b := b) h (n.toNat - 1) [a] [] (by simp) (by simp) (by simpa using ha) (by simp; have := ha.1; have := ha.2; omega) (by
    have h2 : 8 ^ (n.toNat - 1) ≤ 8 ^ 7 := Nat.pow_le_pow_right (by omega) (by have := h.n8; omega)
    have h3 : (8 : Nat) ^ 7 ≤ 1000000000 := by decide
    simp only [List.length_nil]
    omega)
  rw [List.nil_append] at hw
  simp only [impl_Net_all.f]
  refine Ev.bind hw ?_
  have hl := allW_len (b := b) h ha
  unfold allW at hl
  rw [(sortW_perm _).length_eq] at hl
  exact Ev.pos ⟨by omega, fun x hx => by have := hl.2 x ((sortW_perm _).mem_iff.2 hx); omega⟩ (Ev.now _)
end Go.Proofs.Ytffflhmblelegaa.Th
namespace Go.Proofs.Ytffflhmblelegaa.Th
open Go.RowKit Go.Proofs.YtffflhmblelegaaW.PrintWords Go.Proofs.YtffflhmblelegaaW.PrintLast Go.Proofs.YtffflhmblelegaaW.PrintMore Go.Proofs.Ytffflhmblelegaa.F
theorem rd_head {w : List Int} (h : w ≠ []) : w.head? = some (rd w 0) := by
  cases w with
  | nil => exact absurd rfl h
  | cons a r => rfl
theorem rd_last {w : List Int} (h : w ≠ []) : w.getLast? = some (rd w ((w.length : Int) - 1)) := by
  have hp : 0 < w.length := List.length_pos_iff.2 h
  rw [show ((w.length : Int) - 1) = ((w.length - 1 : Nat) : Int) by omega, rd_getElem w (w.length - 1) (by omega), List.getLast?_eq_getElem?, List.getElem?_eq_getElem (by omega)]
theorem Path.inn {n : Int} {E : List T} (h : OK n E) {a b : Int} (ha : In n a) {w : List Int} (p : Path E a b w) {x : Int} (hx : x ∈ w) : In n x := (p.conn_mem hx).inNet h ha
theorem Leads.path {n : Int} {E : List T} {a b : Int} {w : List Int} (h : Leads n E a b w) : Path E a b w := by
  obtain ⟨_, ⟨h0, _, h2, h3⟩, h4, h5⟩ := h
  exact ⟨h2, h3, by rw [rd_head h0, h4], by rw [rd_last h0, h5]⟩
/-- A path has a first and a last tie. -/
theorem Path.ties {E : List T} {a b : Int} {w : List Int} (p : Path E a b w) (hab : a ≠ b) : (∃ s ∈ es w, On s a) ∧ ∃ t ∈ es w, On t b := by
  have fst : ∀ {a b : Int} {w : List Int}, Path E a b w → a ≠ b → ∃ s ∈ es w, On s a := fun {a b w} p hab => by
    obtain ⟨r, rfl⟩ := p.cons_eq
    cases r with
    | nil => have := p.lst; simp at this; exact absurd this hab
    | cons c r => exact ⟨tie a c, by simp [es], on_tie.2 (Or.inl rfl)⟩
  refine ⟨fst p hab, ?_⟩
  obtain ⟨t, h1, h2⟩ := fst p.rev hab.symm
  exact ⟨t, (mem_es_rev _ _).1 h1, h2⟩
end Go.Proofs.Ytffflhmblelegaa.Th
namespace Go.Proofs.Ytffflhmblelegaa.Th
open Go.RowKit Go.Proofs.YtffflhmblelegaaW.PrintWords Go.Proofs.YtffflhmblelegaaW.PrintLast Go.Proofs.YtffflhmblelegaaW.PrintMore Go.Proofs.Ytffflhmblelegaa.F Classical
noncomputable def blockL (E : List T) (t : T) : List T := E.filter (fun s => dec (Bl E t s))
/-- No tie of its block stands ahead. -/
def Fst (E : List T) (t : T) : Prop := ∀ s ∈ E, Bl E s t → ¬ lt s t
noncomputable def firstsL (E : List T) : List T := E.filter (fun t => dec (Fst E t))
noncomputable def blocksL (E : List T) : List (List T) := (firstsL E).map (blockL E)
theorem mem_blockL {E : List T} {s t : T} : s ∈ blockL E t ↔ s ∈ E ∧ Bl E t s := by
  unfold blockL
  rw [List.mem_filter, dec_iff]
theorem blockL_sub (E : List T) (t : T) : (blockL E t).Sublist E := List.filter_sublist
theorem OK.block {n : Int} {E : List T} (h : OK n E) (t : T) : OK n (blockL E t) := h.filter _
theorem blockL_length (E : List T) (t : T) : (blockL E t).length ≤ E.length := (blockL_sub E t).length_le
theorem blocksL_length (E : List T) : (blocksL E).length ≤ E.length := by
  unfold blocksL firstsL
  rw [List.length_map]
  exact List.length_filter_le _ _
theorem bl_congr {n : Int} {E : List T} (h : OK n E) {s t u : T} (hs : s ∈ E) (ht : t ∈ E) (b : Bl E s t) : Bl E s u ↔ Bl E t u := ⟨fun k => b.symm.trans h hs k, fun k => b.trans h ht k⟩
theorem blockL_eq {n : Int} {E : List T} (h : OK n E) {s t : T} (hs : s ∈ E) (ht : t ∈ E) (b : Bl E s t) : blockL E s = blockL E t := by
  unfold blockL
  refine List.filter_congr (fun u _ => ?_)
  exact dec_congr (bl_congr h hs ht b)
theorem first_uniq {E : List T} {f g : T} (hf : f ∈ E) (hg : g ∈ E) (kf : Fst E f) (kg : Fst E g) (b : Bl E f g) : f = g := by
  rcases lt_tri f g with k | k | k
  · exact absurd k (kg f hf b)
  · exact k
  · exact absurd k (kf g hg b.symm)
/-- The knots of some ties, ascending. -/
noncomputable def knotsL (n : Int) (B : List T) : List Int := (ks n).filter (fun k => dec (∃ t ∈ B, On t k))
theorem mem_knotsL {n : Int} {B : List T} {k : Int} : k ∈ knotsL n B ↔ In n k ∧ ∃ t ∈ B, On t k := by
  unfold knotsL
  rw [List.mem_filter, mem_ks, dec_iff]
  exact Iff.rfl
theorem knotsL_length {n : Int} (hn : n ≤ 8) (B : List T) : (knotsL n B).length ≤ 8 := by
  unfold knotsL
  have := List.length_filter_le (fun k => dec (∃ t ∈ B, On t k)) (ks n)
  rw [ks_length] at this
  omega
theorem knotsL_sorted (n : Int) (B : List T) : (knotsL n B).Pairwise (· < ·) := (ks_pairwise n).filter _
theorem on_in {n : Int} {E : List T} (h : OK n E) {t : T} (ht : t ∈ E) {k : Int} (hk : On t k) : In n k := by
  have := h.tie t ht
  rcases hk with rfl | rfl
  · exact ⟨by omega, by omega⟩
  · exact ⟨by omega, by omega⟩
noncomputable def knotRows (n : Int) (E : List T) : List (List Int) := (blocksL E).map (knotsL n)
end Go.Proofs.Ytffflhmblelegaa.Th
namespace Go.Proofs.Ytffflhmblelegaa.Th
open Go.RowKit Go.Proofs.YtffflhmblelegaaW.PrintWords Go.Proofs.YtffflhmblelegaaW.PrintLast Go.Proofs.YtffflhmblelegaaW.PrintMore Go.Proofs.Ytffflhmblelegaa.F
theorem ev_less_loop (n : Int) (E gone : List T) (hE : E.length ≤ 1048576) (hg : gone.length ≤ 1048576) : ∀ (d i : Nat) (out : List T), i + d = E.length → out.length ≤ i →
    Ev (fun k => impl_Net_less.l0 k gone E E.length i n out) (n, out ++ less (E.drop i) (· ∈ gone))
  | 0, i, out, h, _ => by
    refine Ev.succ ?_
    simp only [impl_Net_less.l0]
    refine Ev.neg (by omega) (Ev.some_ ?_)
    rw [List.drop_of_length_le (by omega)]
    simp [less]
  | d + 1, i, out, h, hl => by
    have hi : i < E.length := by omega
    refine Ev.succ ?_
    simp only [impl_Net_less.l0, rd_T_nat E i hi]
    refine Ev.pos (by omega) (Ev.pos (by omega) (Ev.pos (by omega) (Ev.bind (ev_contains gone E[i] hg) ?_)))
    rw [List.drop_eq_getElem_cons hi, w64 (by omega)]
    by_cases h0 : E[i] ∈ gone
    · rw [less_cons_pos h0]
      exact Ev.pos (dec_t h0) (ev_less_loop n E gone hE hg d (i + 1) out (by omega) (by omega))
    · rw [less_cons_neg h0]
      refine Ev.neg (by rw [dec_f h0]; simp) (Ev.pos (by omega) ?_)
      refine Ev.cast (ev_less_loop n E gone hE hg d (i + 1) (out ++ [E[i]]) (by omega) (by simp only [List.length_append, List.length_singleton]; omega)) ?_
      simp
theorem ev_less (n : Int) (E gone : List T) (hE : E.length ≤ 1048576) (hg : gone.length ≤ 1048576) : Ev (fun k => impl_Net_less.f k n E gone) (n, less E (· ∈ gone)) := by
  simp only [impl_Net_less.f]
  exact ev_less_loop n E gone hE hg E.length 0 [] (by omega) (by simp)
theorem less_one (E : List T) (t : T) : less E (· ∈ [t]) = less E (· = t) := less_congr (fun s _ => by simp)
end Go.Proofs.Ytffflhmblelegaa.Th
namespace Go.Proofs.Ytffflhmblelegaa.Th
open Go.RowKit Go.Proofs.YtffflhmblelegaaW.PrintWords Go.Proofs.YtffflhmblelegaaW.PrintLast Go.Proofs.YtffflhmblelegaaW.PrintMore Go.Proofs.Ytffflhmblelegaa.F Classical
/-- The map holds just these ties. -/
def HoldsP (s : Int) (P : T → Prop) : Prop := ∀ t : T, mpIn t.f0 t.f1 → mpBit s t.f0 t.f1 = dec (P t)
theorem holdsP_nil : HoldsP 0 (fun _ => False) := fun t _ => by rw [mpBit_zero, dec_f (by simp)]
theorem HoldsP.add {s : Int} {P : T → Prop} (h : HoldsP s P) {t : T} (ht : mpIn t.f0 t.f1) : HoldsP (mpSet s t.f0 t.f1) (fun u => P u ∨ u = t) := fun u hu => by
  rw [mpBit_set ht hu, h u hu]
  refine dec_of ?_
  rw [Bool.or_eq_true, dec_iff, decide_eq_true_eq]
  exact or_congr_right ⟨fun k => T.ext k.1 k.2, fun k => by rw [k]; exact ⟨rfl, rfl⟩⟩
theorem HoldsP.congr {s : Int} {P Q : T → Prop} (h : HoldsP s P) (e : ∀ t, P t ↔ Q t) : HoldsP s Q := fun t ht => by rw [h t ht]; exact dec_congr (e t)
theorem mpIn_mem {n : Int} {E : List T} (h : OK n E) {t : T} (ht : t ∈ E) : mpIn t.f0 t.f1 := by
  have := h.tie t ht
  have := h.n8
  unfold mpIn
  omega
theorem mpIn_tie {n : Int} {E : List T} (h : OK n E) {a b : Int} (ha : In n a) (hb : In n b) : mpIn (tie a b).f0 (tie a b).f1 := by
  have := h.n8
  unfold In at ha hb
  unfold mpIn tie
  split <;> simp <;> omega
theorem mapAdd_eq {s : Int} {t : T} (ht : mpIn t.f0 t.f1) : impl_mapAdd.f s t.f0 t.f1 = some (mpSet s t.f0 t.f1) := by unfold impl_mapAdd.f; rw [if_pos ht]
theorem mapHas_eq {s : Int} {P : T → Prop} (h : HoldsP s P) {t : T} (ht : mpIn t.f0 t.f1) : impl_mapHas.f s t.f0 t.f1 = some (dec (P t), s) := by unfold impl_mapHas.f; rw [if_pos ht, h t ht]
theorem rdL_W (R : List (List Int)) (j : Nat) (hj : j < R.length) : rd_L2 R (j : Int) = R[j] := by
  unfold rd_L2
  rw [List.getD_eq_getElem?_getD, Int.toNat_natCast, List.getElem?_eq_getElem hj]
  rfl
theorem ev_block_l1 {n : Int} {E : List T} (h : OK n E) {W : List (List Int)} {w : List Int} (hin : ∀ v ∈ w, In n v) (hl : w.length ≤ 8) {x : Nat} (hx : x < W.length) (hW : W.length ≤ 1000000000) {r : List T} :
    ∀ (d i : Nat) (s : Int) (P : T → Prop), 1 ≤ i → (i + d = w.length ∨ d = 0 ∧ w.length ≤ i) → HoldsP s P →
      (∀ s', HoldsP s' (fun u => P u ∨ u ∈ es (w.drop (i - 1))) → Ev (fun k => impl_Net_block.l0 k W W.length ((x : Int) + 1) n E s') r) →
      Ev (fun k => impl_Net_block.l1 k w i W W.length x n E s) r
  | 0, i, s, P, h1, hd, hs, hnext => by
    refine Ev.succ ?_
    simp only [impl_Net_block.l1]
    refine Ev.neg (by omega) ?_
    rw [w64 (by omega)]
    refine hnext s (hs.congr (fun u => ?_))
    have e : es (w.drop (i - 1)) = [] := by
      have hle : (w.drop (i - 1)).length ≤ 1 := by rw [List.length_drop]; omega
      match w.drop (i - 1), hle with
      | [], _ => rfl
      | [_], _ => rfl
      | _ :: _ :: _, hle => simp at hle
    rw [e]; simp
  | d + 1, i, s, P, h1, hd, hs, hnext => by
    obtain ⟨j, rfl⟩ : ∃ j, i = j + 1 := ⟨i - 1, by omega⟩
    have hj1 : j + 1 < w.length := by omega
    have e2 : es (w.drop (j + 1 - 1)) = tie w[j] w[j + 1] :: es (w.drop (j + 1 + 1 - 1)) := by
      rw [show j + 1 - 1 = j by omega, show j + 1 + 1 - 1 = j + 1 by omega, List.drop_eq_getElem_cons (by omega : j < w.length), List.drop_eq_getElem_cons hj1]
      rfl
    rw [e2] at hnext
    have hm := mpIn_tie h (hin w[j] (List.getElem_mem _)) (hin w[j + 1] (List.getElem_mem _))
    refine Ev.succ ?_
    simp only [impl_Net_block.l1]
    rw [w64 (x := ((j + 1 : Nat) : Int) - 1) (by omega), show ((j + 1 : Nat) : Int) - 1 = (j : Int) by omega, rd_getElem w j (by omega), rd_getElem w (j + 1) hj1]
    refine Ev.pos (by omega) (Ev.pos (by omega) (Ev.pos (by omega) (Ev.pos (by omega) (Ev.bind0 (impl_tie_eq _ _) (Ev.bind0 (mapAdd_eq hm) ?_)))))
    rw [w64 (by omega), show ((j + 1 : Nat) : Int) + 1 = ((j + 1 + 1 : Nat) : Int) by omega]
    refine ev_block_l1 h hin hl hx hW d (j + 1 + 1) _ _ (by omega) (by omega) (hs.add hm) (fun s' h3 => hnext s' (h3.congr (fun u => ?_)))
    rw [List.mem_cons]
    exact ⟨fun k => k.elim (fun k => k.elim Or.inl (fun e => Or.inr (Or.inl e))) (fun k => Or.inr (Or.inr k)), fun k => k.elim (fun k => Or.inl (Or.inl k)) (fun k => k.elim (fun e => Or.inl (Or.inr e)) Or.inr)⟩
theorem ev_block_l2 {n : Int} {E : List T} (h : OK n E) {s : Int} {P : T → Prop} (hs : HoldsP s P) : ∀ (d i : Nat) (out : List T), i + d = E.length → out.length ≤ i →
    Ev (fun k => impl_Net_block.l2 k out E E.length i s) (out ++ (E.drop i).filter (fun t => dec (P t)))
  | 0, i, out, hd, _ => by
    rw [List.drop_of_length_le (by omega), List.filter_nil, List.append_nil]
    refine Ev.succ ?_
    simp only [impl_Net_block.l2]
    exact Ev.neg (by omega) (Ev.now _)
  | d + 1, i, out, hd, ho => by
    have hl := h.length
    have hi : i < E.length := by omega
    have hm := mpIn_mem h (List.getElem_mem hi)
    rw [List.drop_eq_getElem_cons hi]
    refine Ev.succ ?_
    simp only [impl_Net_block.l2]
    rw [rd_T_nat E i hi]
    refine Ev.pos (by omega) (Ev.pos (by omega) (Ev.pos (by omega) (Ev.bind0 (mapHas_eq hs hm) ?_)))
    rw [w64 (by omega)]
    by_cases hp : P E[i]
    · rw [List.filter_cons_of_pos (p := fun t => dec (P t)) (dec_t hp)]
      have := ev_block_l2 h hs d (i + 1) (out ++ [E[i]]) (by omega) (by simp; omega)
      rw [List.append_assoc] at this
      exact Ev.pos (dec_t hp) (Ev.pos (by omega) (by exact_mod_cast this))
    · rw [List.filter_cons_of_neg (p := fun t => dec (P t)) (by rw [dec_f hp]; simp)]
      have := ev_block_l2 h hs d (i + 1) out (by omega) (by omega)
      exact Ev.neg (by rw [dec_f hp]; simp) (by exact_mod_cast this)
theorem ev_block_l0 {n : Int} {E : List T} (h : OK n E) {W : List (List Int)} (hin : ∀ w ∈ W, w.length ≤ 8 ∧ ∀ v ∈ w, In n v) (hW : W.length ≤ 1000000000) {r : List T} :
    ∀ (d i : Nat) (s : Int) (P : T → Prop), i + d = W.length → HoldsP s P →
      (∀ s', HoldsP s' (fun u => P u ∨ ∃ w ∈ W.drop i, u ∈ es w) → Ev (fun k => impl_Net_block.l2 k [] E E.length 0 s') r) →
      Ev (fun k => impl_Net_block.l0 k W W.length i n E s) r
  | 0, i, s, P, hd, hs, hnext => by
    refine Ev.succ ?_
    simp only [impl_Net_block.l0]
    refine Ev.neg (by omega) (hnext s (hs.congr (fun u => ?_)))
    rw [List.drop_of_length_le (by omega)]; simp
  | d + 1, i, s, P, hd, hs, hnext => by
    have hi : i < W.length := by omega
    have hw := hin _ (List.getElem_mem hi)
    refine Ev.succ ?_
    simp only [impl_Net_block.l0]
    rw [rdL_W W i hi]
    refine Ev.pos (by omega) (Ev.pos (by omega) (Ev.pos (by omega) ?_))
    have key := ev_block_l1 h (W := W) hw.2 hw.1 hi hW (r := r) (W[i].length - 1) 1 s P (by omega) (by omega) hs (fun s' h3 => ?_)
    · exact key
    · have := ev_block_l0 h hin hW d (i + 1) s' _ (by omega) h3 (fun s2 h4 => hnext s2 (h4.congr (fun u => ?_)))
      · exact_mod_cast this
      · rw [List.drop_eq_getElem_cons hi, show 1 - 1 = 0 by omega, List.drop_zero]
        constructor
        · rintro ((k | k) | ⟨w, hw, k⟩)
          · exact Or.inl k
          · exact Or.inr ⟨_, List.mem_cons.2 (Or.inl rfl), k⟩
          · exact Or.inr ⟨w, List.mem_cons_of_mem _ hw, k⟩
        · rintro (k | ⟨w, hw, k⟩)
          · exact Or.inl (Or.inl k)
          · rcases List.mem_cons.1 hw with e | e
            · subst e; exact Or.inl (Or.inr k)
            · exact Or.inr ⟨w, e, k⟩
theorem ev_block {n : Int} {E : List T} (h : OK n E) {t : T} (ht : t ∈ E) : Ev (fun k => impl_Net_block.f k n E t.f0 t.f1) (blockL E t) := by
  have hE := h.length
  have hte := h.tie t ht
  have h0 : In n t.f0 := ⟨by omega, by omega⟩
  have hl := h.less (· = t)
  have hlen := allW_len (b := t.f1) hl h0
  have hm := mpIn_mem h ht
  have hnew : impl_mapNew.f = some 0 := rfl
  simp only [impl_Net_block.f]
  refine Ev.bind0 hnew (Ev.bind0 (mapAdd_eq hm) (Ev.bind (ev_less n E [t] (by omega) (by simp)) ?_))
  rw [less_one]
  refine Ev.bind (ev_all (b := t.f1) hl h0) ?_
  have key := ev_block_l0 h (W := allW n (less E (· = t)) t.f0 t.f1) (fun w hw => ⟨hlen.2 w hw, fun v hv => ((mem_allW hl h0).1 hw).conn_mem hv |>.inNet hl h0⟩) hlen.1 (r := blockL E t) _ 0 (mpSet 0 t.f0 t.f1) _ (Nat.zero_add _) (holdsP_nil.add hm) (fun s' h3 => ?_)
  · exact_mod_cast key
  · have := ev_block_l2 h h3 E.length 0 [] (by omega) (by simp)
    rw [List.drop_zero, List.nil_append] at this
    refine Ev.cast (by exact_mod_cast this) ?_
    unfold blockL
    refine List.filter_congr (fun s hs => dec_congr ?_)
    rw [← cc_iff h ht hs]
    unfold CC
    constructor
    · rintro ((k | k) | ⟨w, hw, k⟩)
      · exact k.elim
      · exact Or.inl k
      · exact Or.inr ⟨w, (mem_allW hl h0).1 hw, k⟩
    · rintro (k | ⟨w, p, k⟩)
      · exact Or.inl (Or.inr k)
      · exact Or.inr ⟨w, (mem_allW hl h0).2 p, k⟩
theorem fst_iff {n : Int} {E : List T} (h : OK n E) {i : Nat} (hi : i < E.length) : Fst E E[i] ↔ ¬ ∃ f ∈ E.take i, E[i] ∈ blockL E f := by
  have hmem : E[i] ∈ E := List.getElem_mem hi
  constructor
  · rintro k ⟨f, hf, hb⟩
    have hfE := List.mem_of_mem_take hf
    obtain ⟨j, hj, rfl⟩ := List.mem_iff_getElem.1 hf
    rw [List.length_take] at hj
    have hlt : lt E[j] E[i] := by
      have ha := h.asc
      unfold Asc at ha
      rw [List.pairwise_iff_getElem] at ha
      exact ha j i (by omega) hi (by omega)
    rw [List.getElem_take] at hb hfE
    exact k _ hfE (mem_blockL.1 hb).2 hlt
  · intro k s hs hb hlt
    obtain ⟨j, hj, rfl⟩ := List.mem_iff_getElem.1 hs
    refine k ⟨E[j], ?_, mem_blockL.2 ⟨hmem, hb⟩⟩
    have hji : j < i := by
      have ha := h.asc
      unfold Asc at ha
      rw [List.pairwise_iff_getElem] at ha
      rcases Nat.lt_trichotomy j i with e | e | e
      · exact e
      · subst e; exact absurd hlt (lt_irrefl _)
      · exact absurd (ha i j hi hj e) (lt_asymm hlt)
    rw [List.mem_iff_getElem]
    exact ⟨j, by rw [List.length_take]; omega, by rw [List.getElem_take]⟩
theorem ev_BlockList_l1 {n : Int} {E B : List T} (h : OK n E) (hB : ∀ t ∈ B, t ∈ E) (hBl : B.length ≤ 64) {out : List (List T)} (ho : out.length ≤ 64) {x : Nat} (hx : x < E.length) {r : List (List T)} :
    ∀ (d i : Nat) (s : Int) (P : T → Prop), i + d = B.length → HoldsP s P → (∀ s', HoldsP s' (fun u => P u ∨ u ∈ B.drop i) → Ev (fun k => impl_BlockList.l0 k (out ++ [B]) E E.length ((x : Int) + 1) n E s') r) →
      Ev (fun k => impl_BlockList.l1 k out B E E.length x B B.length i n E s) r
  | 0, i, s, P, hd, hs, hnext => by
    have hE := h.length
    refine Ev.succ ?_
    simp only [impl_BlockList.l1]
    refine Ev.neg (by omega) (Ev.pos (by omega) ?_)
    rw [w64 (by omega)]
    refine hnext s (hs.congr (fun u => ?_))
    rw [List.drop_of_length_le (by omega)]; simp
  | d + 1, i, s, P, hd, hs, hnext => by
    have hi : i < B.length := by omega
    have hm := mpIn_mem h (hB _ (List.getElem_mem hi))
    refine Ev.succ ?_
    simp only [impl_BlockList.l1]
    rw [rd_T_nat B i hi]
    refine Ev.pos (by omega) (Ev.pos (by omega) (Ev.pos (by omega) (Ev.bind0 (mapAdd_eq hm) ?_)))
    rw [w64 (by omega)]
    have := ev_BlockList_l1 h hB hBl ho hx (r := r) d (i + 1) _ _ (by omega) (hs.add hm) (fun s' h3 => hnext s' (h3.congr (fun u => ?_)))
    · exact_mod_cast this
    · rw [List.drop_eq_getElem_cons hi, List.mem_cons]
      exact ⟨fun k => k.elim (fun k => k.elim Or.inl (fun e => Or.inr (Or.inl e))) (fun k => Or.inr (Or.inr k)), fun k => k.elim (fun k => Or.inl (Or.inl k)) (fun k => k.elim (fun e => Or.inl (Or.inr e)) Or.inr)⟩
theorem ev_BlockList_l0 {n : Int} {E : List T} (h : OK n E) : ∀ (d i : Nat) (s : Int) (out : List (List T)), i + d = E.length → out.length ≤ i → HoldsP s (fun u => ∃ f ∈ E.take i, u ∈ blockL E f) →
    Ev (fun k => impl_BlockList.l0 k out E E.length i n E s) (out ++ ((E.drop i).filter (fun t => dec (Fst E t))).map (blockL E))
  | 0, i, s, out, hd, _, _ => by
    rw [List.drop_of_length_le (by omega), List.filter_nil, List.map_nil, List.append_nil]
    refine Ev.succ ?_
    simp only [impl_BlockList.l0]
    exact Ev.neg (by omega) (Ev.now _)
  | d + 1, i, s, out, hd, ho, hs => by
    have hE := h.length
    have hi : i < E.length := by omega
    have hmem : E[i] ∈ E := List.getElem_mem hi
    have hm := mpIn_mem h hmem
    have hfi := fst_iff h hi
    have etk : E.take (i + 1) = E.take i ++ [E[i]] := (List.take_append_getElem hi).symm
    rw [List.drop_eq_getElem_cons hi]
    refine Ev.succ ?_
    simp only [impl_BlockList.l0]
    rw [rd_T_nat E i hi]
    refine Ev.pos (by omega) (Ev.pos (by omega) (Ev.pos (by omega) (Ev.bind0 (mapHas_eq hs hm) ?_)))
    by_cases hf : Fst E E[i]
    · rw [List.filter_cons_of_pos (p := fun t => dec (Fst E t)) (dec_t hf), List.map_cons]
      refine Ev.neg (by rw [dec_f (hfi.1 hf)]; simp) (Ev.bind (ev_block h hmem) ?_)
      have hbl := blockL_length E E[i]
      have key := ev_BlockList_l1 h (B := blockL E E[i]) (fun t ht => (mem_blockL.1 ht).1) (by omega) (out := out) (by omega) hi (r := out ++ blockL E E[i] :: ((E.drop (i + 1)).filter (fun t => dec (Fst E t))).map (blockL E)) _ 0 s _ (Nat.zero_add _) hs (fun s' h3 => ?_)
      · exact_mod_cast key
      · have := ev_BlockList_l0 h d (i + 1) s' (out ++ [blockL E E[i]]) (by omega) (by simp; omega) (h3.congr (fun u => ?_))
        · rw [List.append_assoc] at this
          exact_mod_cast this
        · rw [List.drop_zero, etk]
          constructor
          · rintro (⟨f, hf, k⟩ | k)
            · exact ⟨f, List.mem_append.2 (Or.inl hf), k⟩
            · exact ⟨E[i], List.mem_append.2 (Or.inr (List.mem_singleton.2 rfl)), k⟩
          · rintro ⟨f, hf, k⟩
            rcases List.mem_append.1 hf with hf | hf
            · exact Or.inl ⟨f, hf, k⟩
            · rw [List.mem_singleton] at hf
              subst hf
              exact Or.inr k
    · have hex : ∃ f ∈ E.take i, E[i] ∈ blockL E f := Classical.byContradiction (fun k => hf (hfi.2 k))
      rw [List.filter_cons_of_neg (p := fun t => dec (Fst E t)) (by rw [dec_f hf]; simp)]
      refine Ev.pos (dec_t hex) ?_
      rw [w64 (by omega)]
      have := ev_BlockList_l0 h d (i + 1) s out (by omega) (by omega) (hs.congr (fun u => ?_))
      · exact_mod_cast this
      · rw [etk]
        constructor
        · rintro ⟨f, hf, k⟩
          exact ⟨f, List.mem_append.2 (Or.inl hf), k⟩
        · rintro ⟨f, hf, k⟩
          rcases List.mem_append.1 hf with hf | hf
          · exact ⟨f, hf, k⟩
          · rw [List.mem_singleton] at hf
            subst hf
            obtain ⟨g, hg, kg⟩ := hex
            have hgE := List.mem_of_mem_take hg
            have hgb := mem_blockL.1 kg
            exact ⟨g, hg, by rw [blockL_eq h hgE hgb.1 hgb.2]; exact k⟩
/-- Of any net. -/
noncomputable def blockList (n : Int) (E : List T) : List (List T) := if OK n E then blocksL E else []
theorem ev_impl_BlockList (n : Int) (E : List T) (hE : E.length ≤ 1048576) : Ev (fun k => impl_BlockList.f k n E) (blockList n E) := by
  simp only [impl_BlockList.f]
  refine Ev.bind0 (a := []) rfl (Ev.bind (ev_impl_NetOk n E hE) ?_)
  unfold blockList
  by_cases h : OK n E
  · rw [if_pos h]
    have hnew : impl_mapNew.f = some 0 := rfl
    refine Ev.pos (dec_t h) (Ev.bind0 hnew ?_)
    have := ev_BlockList_l0 h E.length 0 0 [] (by omega) (by simp) (holdsP_nil.congr (fun u => by simp))
    rw [List.drop_zero, List.nil_append] at this
    exact_mod_cast this
  · rw [if_neg h]
    exact Ev.neg (by rw [dec_f h]; simp) (Ev.now _)
theorem blockList_len (n : Int) (E : List T) (_hE : E.length ≤ 1048576) : (blockList n E).length ≤ E.length ∧ ∀ b ∈ blockList n E, b.length ≤ E.length := by
  unfold blockList
  split
  · refine ⟨blocksL_length E, fun b hb => ?_⟩
    unfold blocksL at hb
    obtain ⟨t, _, rfl⟩ := List.mem_map.1 hb
    exact blockL_length E t
  · simp
end Go.Proofs.Ytffflhmblelegaa.Th
namespace Go.Proofs.Ytffflhmblelegaa.Th
open Go.RowKit Go.Proofs.YtffflhmblelegaaW.PrintWords Go.Proofs.YtffflhmblelegaaW.PrintLast Go.Proofs.YtffflhmblelegaaW.PrintMore Go.Proofs.Ytffflhmblelegaa.F
theorem compactUpTo_spec (d : Array Int) (hs : ∀ i j, i ≤ j → j < d.size → d[i]! ≤ d[j]!) : ∀ m, m ≤ d.size → (Go.Lib.compactUpTo d m).Pairwise (· < ·) ∧ (∀ x, x ∈ Go.Lib.compactUpTo d m ↔ ∃ j, j < m ∧ d[j]! = x)
  | 0, _ => ⟨by simp [Go.Lib.compactUpTo], fun x => by simp [Go.Lib.compactUpTo]⟩
  | m + 1, h => by
    obtain ⟨h1, h2⟩ := compactUpTo_spec d hs m (by omega)
    rw [Go.Lib.compactUpTo_succ]
    by_cases hk : Go.Lib.keeps d m = true
    · rw [if_pos hk]
      unfold Go.Lib.keeps at hk
      rw [decide_eq_true_eq] at hk
      refine ⟨?_, fun x => ?_⟩
      · rw [List.pairwise_append]
        refine ⟨h1, by simp, fun x hx y hy => ?_⟩
        rw [List.mem_singleton] at hy
        subst hy
        obtain ⟨j, hj, rfl⟩ := (h2 x).1 hx
        have e1 := hs j (m - 1) (by omega) (by omega)
        have e2 := hs (m - 1) m (by omega) (by omega)
        rcases hk with k | k
        · omega
        · omega
      · rw [List.mem_append, h2, List.mem_singleton]
        constructor
        · rintro (⟨j, hj, e⟩ | e)
          · exact ⟨j, by omega, e⟩
          · exact ⟨m, by omega, e.symm⟩
        · rintro ⟨j, hj, e⟩
          by_cases q : j = m
          · subst q; exact Or.inr e.symm
          · exact Or.inl ⟨j, by omega, e⟩
    · rw [if_neg hk, List.append_nil]
      unfold Go.Lib.keeps at hk
      rw [decide_eq_true_eq, not_or, Classical.not_not] at hk
      refine ⟨h1, fun x => ?_⟩
      rw [h2]
      constructor
      · rintro ⟨j, hj, e⟩
        exact ⟨j, by omega, e⟩
      · rintro ⟨j, hj, e⟩
        by_cases q : j = m
        · subst q; exact ⟨j - 1, by omega, by rw [← hk.2]; exact e⟩
        · exact ⟨j, by omega, e⟩
theorem sortI_perm (xs : List Int) : (sortI xs).Perm xs := List.mergeSort_perm _ _
theorem sortI_sorted (xs : List Int) : (sortI xs).Pairwise (· ≤ ·) := by
  have := List.pairwise_mergeSort (le := fun x y : Int => decide (x ≤ y)) (fun a b c h1 h2 => by simp only [decide_eq_true_eq] at *; omega) (fun a b => by simp only [Bool.or_eq_true, decide_eq_true_eq]; omega) xs
  exact this.imp (fun h => by simpa using h)
theorem compact_sort (xs : List Int) : (Go.Lib.compact (sortI xs)).Pairwise (· < ·) ∧ ∀ x, x ∈ Go.Lib.compact (sortI xs) ↔ x ∈ xs := by
  have hs := sortI_sorted xs
  rw [List.pairwise_iff_getElem] at hs
  have hmem := fun x => (sortI_perm xs).mem_iff (a := x)
  generalize sortI xs = ys at hs hmem
  obtain ⟨h1, h2⟩ := compactUpTo_spec ys.toArray (fun i j hij hj => by
    rw [getElem!_pos ys.toArray i (by omega), getElem!_pos ys.toArray j hj]
    have hj' : j < ys.length := by simpa using hj
    by_cases e : i = j
    · subst e; omega
    · have := hs i j (by omega) hj' (by omega)
      simpa using this) ys.length (by simp)
  refine ⟨h1, fun x => ?_⟩
  show x ∈ Go.Lib.compactUpTo ys.toArray ys.length ↔ _
  rw [h2, ← hmem, List.mem_iff_getElem]
  constructor
  · rintro ⟨j, hj, e⟩
    refine ⟨j, hj, ?_⟩
    rw [getElem!_pos _ _ (by simpa using hj)] at e
    simpa using e
  · rintro ⟨j, hj, e⟩
    refine ⟨j, hj, ?_⟩
    rw [getElem!_pos _ _ (by simpa using hj)]
    simpa using e
theorem asc_ext_I : ∀ {l m : List Int}, l.Pairwise (· < ·) → m.Pairwise (· < ·) → (∀ x, x ∈ l ↔ x ∈ m) → l = m
  | [], [], _, _, _ => rfl
  | [], y :: m, _, _, h => absurd ((h y).2 (by simp)) (by simp)
  | x :: l, [], _, _, h => absurd ((h x).1 (by simp)) (by simp)
  | x :: l, y :: m, hl, hm, h => by
    obtain ⟨h1, h2⟩ := List.pairwise_cons.1 hl
    obtain ⟨k1, k2⟩ := List.pairwise_cons.1 hm
    have hxy : x = y := by
      rcases List.mem_cons.1 ((h x).1 (by simp)) with e | e
      · exact e
      · rcases List.mem_cons.1 ((h y).2 (by simp)) with e' | e'
        · exact e'.symm
        · have := k1 x e
          have := h1 y e'
          omega
    subst hxy
    rw [asc_ext_I h2 k2 (fun z => ?_)]
    constructor
    · intro hz
      rcases List.mem_cons.1 ((h z).1 (List.mem_cons_of_mem _ hz)) with e | e
      · subst e; have := h1 z hz; omega
      · exact e
    · intro hz
      rcases List.mem_cons.1 ((h z).2 (List.mem_cons_of_mem _ hz)) with e | e
      · subst e; have := k1 z hz; omega
      · exact e
end Go.Proofs.Ytffflhmblelegaa.Th
namespace Go.Proofs.Ytffflhmblelegaa.Th
open Go.RowKit Go.Proofs.YtffflhmblelegaaW.PrintWords Go.Proofs.YtffflhmblelegaaW.PrintLast Go.Proofs.YtffflhmblelegaaW.PrintMore Go.Proofs.Ytffflhmblelegaa.F Classical
def ends2 (t : T) : List Int := [t.f0, t.f1]
theorem rdLt_at (R : List (List T)) (j : Nat) (hj : j < R.length) : rd_L4 R (j : Int) = R[j] := by
  unfold rd_L4
  rw [Int.toNat_natCast, List.getD_eq_getElem?_getD, List.getElem?_eq_getElem hj]
  rfl
theorem ends_mem {B : List T} {x : Int} : x ∈ B.flatMap ends2 ↔ ∃ t ∈ B, On t x := by
  rw [List.mem_flatMap]
  refine exists_congr (fun t => and_congr_right (fun _ => ?_))
  unfold ends2 On
  simp only [List.mem_cons, List.not_mem_nil, or_false]
theorem compact_knots {n : Int} {E B : List T} (h : OK n E) (hB : ∀ t ∈ B, t ∈ E) : Go.Lib.compact (sortI (B.flatMap ends2)) = knotsL n B := by
  obtain ⟨h1, h2⟩ := compact_sort (B.flatMap ends2)
  refine asc_ext_I h1 (knotsL_sorted n B) (fun x => ?_)
  rw [h2, ends_mem, mem_knotsL]
  exact ⟨fun ⟨t, ht, k⟩ => ⟨on_in h (hB t ht) k, t, ht, k⟩, fun k => k.2⟩
theorem ev_BlockKnots_l1 {n : Int} {E : List T} (h : OK n E) {L : List (List T)} (hL : L.length ≤ 64) {B : List T} (hB : ∀ t ∈ B, t ∈ E) (hBl : B.length ≤ 64) {out : List (List Int)} (ho : out.length ≤ 64) {x : Nat} (hx : x < L.length) {r : List (List Int)}
    (hk : Ev (fun k => impl_BlockKnots.l0 k (out ++ [knotsL n B]) L L.length ((x : Int) + 1)) r) : ∀ (d i : Nat), i + d = B.length → Ev (fun k => impl_BlockKnots.l1 k out ((B.take i).flatMap ends2) L L.length x B B.length i) r
  | 0, i, hd => by
    have hc := compact_knots h hB
    have hl := knotsL_length h.n8 B
    have hbl : ((B.take i).flatMap ends2).length ≤ 128 := by
      have : ∀ C : List T, (C.flatMap ends2).length = 2 * C.length := fun C => by
        induction C with
        | nil => rfl
        | cons c C ih => rw [List.flatMap_cons, List.length_append, ih, List.length_cons]; simp [ends2]; omega
      rw [this, List.length_take]; omega
    rw [List.take_of_length_le (by omega)] at hbl ⊢
    refine Ev.succ ?_
    simp only [impl_BlockKnots.l1]
    rw [hc]
    refine Ev.neg (by omega) (Ev.pos (by omega) (Ev.bind0 (a := []) rfl (Ev.pos (by simp; omega) (Ev.pos (by omega) ?_))))
    rw [w64 (by omega), List.nil_append]
    exact hk
  | d + 1, i, hd => by
    have hi : i < B.length := by omega
    have hbl : ((B.take i).flatMap ends2).length ≤ 128 := by
      have : ∀ C : List T, (C.flatMap ends2).length = 2 * C.length := fun C => by
        induction C with
        | nil => rfl
        | cons c C ih => rw [List.flatMap_cons, List.length_append, ih, List.length_cons]; simp [ends2]; omega
      rw [this, List.length_take]; omega
    refine Ev.succ ?_
    simp only [impl_BlockKnots.l1]
    rw [rd_T_nat B i hi]
    refine Ev.pos (by omega) (Ev.pos (by omega) (Ev.pos (by omega) (Ev.bind0 (a := ends2 B[i]) rfl (Ev.pos (by rw [show (ends2 B[i]).length = 2 from rfl]; omega) ?_))))
    rw [w64 (by omega)]
    have := ev_BlockKnots_l1 h hL hB hBl ho hx hk d (i + 1) (by omega)
    rw [← List.take_append_getElem hi, List.flatMap_append, List.flatMap_singleton] at this
    exact_mod_cast this
theorem ev_BlockKnots_l0 {n : Int} {E : List T} (h : OK n E) {L : List (List T)} (hL : L.length ≤ 64) (hB : ∀ B ∈ L, B.length ≤ 64 ∧ ∀ t ∈ B, t ∈ E) : ∀ (d i : Nat) (out : List (List Int)), i + d = L.length → out.length ≤ i →
    Ev (fun k => impl_BlockKnots.l0 k out L L.length i) (out ++ (L.drop i).map (knotsL n))
  | 0, i, out, hd, ho => by
    refine Ev.succ ?_
    simp only [impl_BlockKnots.l0]
    refine Ev.neg (by omega) (Ev.some_ ?_)
    rw [List.drop_of_length_le (by omega)]; simp
  | d + 1, i, out, hd, ho => by
    have hi : i < L.length := by omega
    have hb := hB _ (List.getElem_mem hi)
    refine Ev.succ ?_
    simp only [impl_BlockKnots.l0]
    rw [rdLt_at L i hi, show L.drop i = L[i] :: L.drop (i + 1) from List.drop_eq_getElem_cons hi, List.map_cons]
    refine Ev.pos (by omega) (Ev.pos (by omega) (Ev.pos (by omega) ?_))
    refine ev_BlockKnots_l1 h hL hb.2 hb.1 (by omega) hi ?_ _ 0 (Nat.zero_add _)
    have := ev_BlockKnots_l0 h hL hB d (i + 1) (out ++ [knotsL n L[i]]) (by omega) (by simp; omega)
    rw [List.append_assoc] at this
    exact_mod_cast this
noncomputable def blockKnots (n : Int) (E : List T) : List (List Int) := if OK n E then knotRows n E else []
theorem ev_impl_BlockKnots (n : Int) (E : List T) (hE : E.length ≤ 1048576) : Ev (fun k => impl_BlockKnots.f k n E) (blockKnots n E) := by
  simp only [impl_BlockKnots.f]
  refine Ev.bind (ev_impl_BlockList n E hE) ?_
  unfold blockKnots blockList
  by_cases h : OK n E
  · rw [if_pos h, if_pos h]
    have hl := h.length
    have hbl := blocksL_length E
    have := ev_BlockKnots_l0 h (L := blocksL E) (by omega) (fun B hB => by
      unfold blocksL at hB
      obtain ⟨t, _, rfl⟩ := List.mem_map.1 hB
      have := blockL_length E t
      exact ⟨by omega, fun s hs => (mem_blockL.1 hs).1⟩) (blocksL E).length 0 [] (by omega) (by simp)
    rw [List.drop_zero, List.nil_append] at this
    exact_mod_cast this
  · rw [if_neg h, if_neg h]
    refine Ev.succ ?_
    simp only [impl_BlockKnots.l0]
    exact Ev.neg (by simp) (Ev.now _)
theorem blockKnots_len (n : Int) (E : List T) : (blockKnots n E).length ≤ E.length ∧ ∀ r ∈ blockKnots n E, r.length ≤ 8 := by
  unfold blockKnots
  split
  · next h =>
    refine ⟨?_, fun r hr => ?_⟩
    · unfold knotRows; rw [List.length_map]; exact blocksL_length E
    · unfold knotRows at hr
      obtain ⟨B, _, rfl⟩ := List.mem_map.1 hr
      exact knotsL_length h.n8 B
  · simp
/-- The tie at a place. -/
abbrev at_ (E : List T) (i : Int) : T := rd_T52 E i
theorem at_nat (E : List T) (i : Nat) (h : i < E.length) : at_ E (i : Int) = E[i] := rd_T_nat E i h
theorem at_mem {E : List T} {i : Int} (h : 0 ≤ i) (k : i < E.length) : at_ E i ∈ E := by
  obtain ⟨j, rfl⟩ : ∃ j : Nat, i = j := ⟨i.toNat, by omega⟩
  rw [at_nat E j (by omega)]
  exact List.getElem_mem _
theorem mem_at {E : List T} {t : T} (h : t ∈ E) : ∃ i : Int, 0 ≤ i ∧ i < E.length ∧ at_ E i = t := by
  obtain ⟨i, hi, rfl⟩ := List.mem_iff_getElem.1 h
  exact ⟨i, by omega, by omega, at_nat E i hi⟩
theorem at_lt {n : Int} {E : List T} (h : OK n E) {i j : Int} (hi : 0 ≤ i) (hj : j < E.length) (hij : i < j) : lt (at_ E i) (at_ E j) := by
  obtain ⟨a, rfl⟩ : ∃ a : Nat, i = a := ⟨i.toNat, by omega⟩
  obtain ⟨b, rfl⟩ : ∃ b : Nat, j = b := ⟨j.toNat, by omega⟩
  rw [at_nat E a (by omega), at_nat E b (by omega)]
  have := h.asc
  unfold Asc at this
  rw [List.pairwise_iff_getElem] at this
  exact this a b (by omega) (by omega) (by omega)
theorem at_inj {n : Int} {E : List T} (h : OK n E) {i j : Int} (hi : 0 ≤ i) (hi' : i < E.length) (hj : 0 ≤ j) (hj' : j < E.length) (e : at_ E i = at_ E j) : i = j := by
  rcases Int.lt_trichotomy i j with k | k | k
  · exact absurd (e ▸ at_lt h hi hj' k) (lt_irrefl _)
  · exact k
  · exact absurd (e ▸ at_lt h hj hi' k) (lt_irrefl _)
theorem at_lt_iff {n : Int} {E : List T} (h : OK n E) {i j : Int} (_hi : 0 ≤ i) (hi' : i < E.length) (hj : 0 ≤ j) (hj' : j < E.length) (k : lt (at_ E i) (at_ E j)) : i < j := by
  rcases Int.lt_trichotomy i j with e | e | e
  · exact e
  · subst e; exact absurd k (lt_irrefl _)
  · exact absurd (at_lt h hj hi' e) (lt_asymm k)
structure LabT (E : List T) (out : List Int) : Prop where
  len : out.length = E.length
  low : ∀ i : Int, 0 ≤ i → i < E.length → 0 ≤ rd out i ∧ rd out i ≤ i
  bl : ∀ i : Int, 0 ≤ i → i < E.length → Bl E (at_ E (rd out i)) (at_ E i)
theorem LabT.start {n : Int} {E : List T} (h : OK n E) : LabT E (ks E.length) := by
  have e : ∀ i : Int, 0 ≤ i → i < E.length → rd (ks E.length) i = i := fun i h0 hi => by
    obtain ⟨j, rfl⟩ : ∃ j : Nat, i = j := ⟨i.toNat, by omega⟩
    rw [rd_getElem _ j (by rw [ks_length]; omega), ks_getElem]
  refine ⟨by rw [ks_length]; omega, fun i h0 hi => by rw [e i h0 hi]; omega, fun i h0 hi => ?_⟩
  rw [e i h0 hi]
  exact Bl.refl h (at_mem h0 hi)
theorem LabT.set {n : Int} {E : List T} (h : OK n E) {out : List Int} (l : LabT E out) {i k : Int} (hi : 0 ≤ i) (hi' : i < E.length) (hk : 0 ≤ k) (hk' : k < E.length) (hlt : rd out k < rd out i) (hs : Side E (at_ E i) (at_ E k)) : LabT E (out.set i.toNat (rd out k)) := by
  have e := fun j hj => rd_set out i j (rd out k) hi (by rw [l.len]; exact hi') hj
  have l1 := l.low i hi hi'
  have l2 := l.low k hk hk'
  refine ⟨by rw [List.length_set]; exact l.len, fun j h0 hj => ?_, fun j h0 hj => ?_⟩
  · rw [e j h0]
    split
    · next q => subst q; omega
    · exact l.low j h0 hj
  · rw [e j h0]
    split
    · next q =>
      subst q
      exact (l.bl k hk hk').trans h (at_mem hk hk') hs.bl.symm
    · exact l.bl j h0 hj
/-- None changes any more. -/
def Still (E : List T) (out : List Int) : Prop := ∀ i k : Int, 0 ≤ i → i < E.length → 0 ≤ k → k < E.length → ¬ (rd out k < rd out i ∧ at_ E i ≠ at_ E k ∧ Side E (at_ E i) (at_ E k))
theorem LabT.same {n : Int} {E : List T} (h : OK n E) {out : List Int} (s : Still E out) {i : Int} (hi : 0 ≤ i) (hi' : i < E.length) {t : T} (c : Chain E (at_ E i) t) : ∀ k : Int, 0 ≤ k → k < E.length → at_ E k = t → rd out k = rd out i := by
  induction c with
  | refl => intro k hk hk' e; rw [at_inj h hk hk' hi hi' e]
  | step c hu sd ih =>
    rename_i u v
    intro k hk hk' e
    obtain ⟨j, hj, hj', ej⟩ := mem_at (c.mem (at_mem hi hi'))
    have e1 := ih j hj hj' ej
    by_cases hne : at_ E j = at_ E k
    · rw [at_inj h hk hk' hj hj' hne.symm, e1]
    · have s1 := s j k hj hj' hk hk'
      have s2 := s k j hk hk' hj hj'
      rw [ej, e] at s1 s2
      have hne' : ¬ u = v := fun q => hne (by rw [ej, e, q])
      have a1 : ¬ rd out k < rd out j := fun q => s1 ⟨q, hne', sd⟩
      have a2 : ¬ rd out j < rd out k := fun q => s2 ⟨q, fun q' => hne' q'.symm, sd.symm⟩
      omega
theorem LabT.fst {n : Int} {E : List T} (h : OK n E) {out : List Int} (l : LabT E out) (s : Still E out) {i : Int} (hi : 0 ≤ i) (hi' : i < E.length) : Fst E (at_ E (rd out i)) := by
  have l1 := l.low i hi hi'
  have hmo := at_mem (E := E) l1.1 (by omega)
  intro t ht hb hlt
  obtain ⟨j, hj, hj', ej⟩ := mem_at ht
  have hj2 : j < rd out i := at_lt_iff h hj hj' l1.1 (by omega) (by rw [ej]; exact hlt)
  have hb2 : Bl E (at_ E j) (at_ E i) := by rw [ej]; exact hb.trans h hmo (l.bl i hi hi')
  have e := LabT.same h s hj hj' (hb2.chain h (at_mem hj hj') (at_mem hi hi')) i hi hi' rfl
  have l2 := l.low j hj hj'
  omega
theorem LabT.eq_iff {n : Int} {E : List T} (h : OK n E) {out : List Int} (l : LabT E out) (s : Still E out) {i k : Int} (hi : 0 ≤ i) (hi' : i < E.length) (hk : 0 ≤ k) (hk' : k < E.length) (hf : Fst E (at_ E i)) : rd out k = i ↔ Bl E (at_ E i) (at_ E k) := by
  constructor
  · intro e
    have := l.bl k hk hk'
    rw [e] at this
    exact this
  · intro b
    have l1 := l.low k hk hk'
    have hm := at_mem (E := E) l1.1 (by omega)
    exact at_inj h l1.1 (by omega) hi hi' (first_uniq hm (at_mem hi hi') (LabT.fst h l s hk hk') hf ((l.bl k hk hk').trans h (at_mem hk hk') b.symm))
theorem LabT.self_iff {n : Int} {E : List T} (h : OK n E) {out : List Int} (l : LabT E out) (s : Still E out) {i : Int} (hi : 0 ≤ i) (hi' : i < E.length) : rd out i = i ↔ Fst E (at_ E i) := by
  constructor
  · intro e
    have := LabT.fst h l s hi hi'
    rwa [e] at this
  · intro hf
    exact (LabT.eq_iff h l s hi hi' hi hi' hf).2 (Bl.refl h (at_mem hi hi'))
end Go.Proofs.Ytffflhmblelegaa.Th
namespace Go.Proofs.Ytffflhmblelegaa.Th
open Go.RowKit Go.Proofs.YtffflhmblelegaaW.PrintWords Go.Proofs.YtffflhmblelegaaW.PrintLast Go.Proofs.YtffflhmblelegaaW.PrintMore Go.Proofs.Ytffflhmblelegaa.F
/-- Labels: none is greater than its knot, each leads there. -/
structure Lab (n : Int) (E : List T) (out : List Int) : Prop where
  len : out.length = n.toNat
  le : ∀ x, In n x → 0 ≤ rd out x ∧ rd out x ≤ x
  ok : ∀ x, In n x → Conn E (rd out x) x
/-- Labels with which all ties agree are those of the least. -/
theorem Lab.done {n : Int} {E : List T} {out : List Int} (s : Lab n E out) (he : ∀ t ∈ E, rd out t.f0 = rd out t.f1) : out = partsL n E := by
  refine ext_rd (by rw [s.len]; unfold partsL; rw [List.length_map, ks_length]) (fun x h0 hx => ?_)
  rw [s.len] at hx
  have hx' : In n x := ⟨h0, by omega⟩
  unfold partsL
  rw [rd_mapks n _ x h0 hx'.2]
  have hk : ∀ a b, Conn E a b → rd out a = rd out b := fun a b c => by
    have := c.keeps (P := fun y => rd out a = rd out y) (fun b c m k => k.trans ?_) rfl
    · exact this
    · have := he _ m
      unfold tie at this
      split at this <;> simp only at this
      · exact this
      · exact this.symm
  refine (rep_unique E h0 (s.le x hx').1 (s.ok x hx') (fun j hj hc => ?_)).symm
  by_cases hjn : j < n
  · have := (s.le j ⟨hj, hjn⟩).2
    rw [hk j x hc] at this
    exact this
  · have := (s.le x hx').2
    omega
theorem Lab.nonneg {n : Int} {E : List T} {out : List Int} (s : Lab n E out) : 0 ≤ out.sum := by
  refine sum_nonneg out (fun x hx => ?_)
  obtain ⟨i, hi, e⟩ := List.mem_iff_getElem.1 hx
  have := (s.le i ⟨by omega, by have := s.len; omega⟩).1
  rw [rd_getElem _ i hi, e] at this
  exact this
theorem ev_spec_without_loop (n : Int) (E : List T) (v : Int) (hE : E.length ≤ 1048576) : ∀ (d i : Nat) (out : List T), i + d = E.length → out.length ≤ i →
    Ev (fun k => spec_NetWithout.l0 k v i n E n out) (n, out ++ lessK (E.drop i) v)
  | 0, i, out, h, _ => by
    refine Ev.succ ?_
    simp only [spec_NetWithout.l0]
    refine Ev.neg (by omega) (Ev.some_ ?_)
    rw [List.drop_of_length_le (by omega)]
    simp [less]
  | d + 1, i, out, h, hl => by
    have hi : i < E.length := by omega
    refine Ev.succ ?_
    simp only [spec_NetWithout.l0, rd_T_nat E i hi]
    refine Ev.pos (by omega) (Ev.pos (by omega) ?_)
    rw [List.drop_eq_getElem_cons hi, w64 (by omega)]
    by_cases h0 : E[i].f0 = v
    · rw [lessK, less_cons_pos (Or.inl h0)]
      exact Ev.pos h0 (ev_spec_without_loop n E v hE d (i + 1) out (by omega) (by omega))
    · refine Ev.neg h0 ?_
      by_cases h1 : E[i].f1 = v
      · rw [lessK, less_cons_pos (Or.inr h1)]
        exact Ev.pos h1 (ev_spec_without_loop n E v hE d (i + 1) out (by omega) (by omega))
      · rw [lessK, less_cons_neg (not_or.2 ⟨h0, h1⟩)]
        refine Ev.neg h1 (Ev.pos (by omega) ?_)
        refine Ev.cast (ev_spec_without_loop n E v hE d (i + 1) (out ++ [E[i]]) (by omega) (by simp only [List.length_append, List.length_singleton]; omega)) ?_
        simp
theorem ev_spec_NetWithout {n : Int} {E : List T} {v : Int} (h : OK n E) (hv : In n v) : Ev (fun k => spec_NetWithout.f k n E v) (n, lessK E v) := by
  have := h.length
  simp only [spec_NetWithout.f]
  refine Ev.bind (ev_l1Knot n E v (by omega) h.wf) (Ev.pos (dec_t ⟨h, hv⟩) ?_)
  exact ev_spec_without_loop n E v (by omega) E.length 0 [] (by omega) (by simp)
noncomputable def nextL (n : Int) (E : List T) (v : Int) : List Int := (ks n).filter (fun c => dec (Has E v c))
theorem mem_nextL {n : Int} {E : List T} {v c : Int} : c ∈ nextL n E v ↔ In n c ∧ Has E v c := by
  unfold nextL
  rw [List.mem_filter, mem_ks, dec_iff]
  exact Iff.rfl
theorem nextL_length (n : Int) (E : List T) (v : Int) : (nextL n E v).length ≤ n.toNat := by
  have := List.length_filter_le (fun c => dec (Has E v c)) (ks n)
  rw [ks_length] at this
  exact this
theorem ev_l2Next_loop (n : Int) (E : List T) (v : Int) (hE : E.length ≤ 1048576) (hn : n ≤ 1000) : ∀ (d : Nat) (i : Int) (out : List Int), 0 ≤ i → i + d = n → out.length ≤ i.toNat →
    Ev (fun k => spec_l2Next.l0 k v out i n E) (out ++ (ksFrom n i).filter (fun c => dec (Has E v c)))
  | 0, i, out, h0, h, _ => by
    refine Ev.succ ?_
    simp only [spec_l2Next.l0]
    refine Ev.neg (by omega) (Ev.some_ ?_)
    rw [ksFrom_end (by omega)]; simp
  | d + 1, i, out, h0, h, hl => by
    refine Ev.succ ?_
    simp only [spec_l2Next.l0]
    refine Ev.pos (by omega) (Ev.bind (ev_l1Has n E v i hE) ?_)
    rw [ksFrom_cons h0 (by omega), w64 (by omega)]
    by_cases hv : Has E v i
    · refine Ev.pos (dec_t hv) (Ev.pos (by omega) ?_)
      refine Ev.cast (ev_l2Next_loop n E v hE hn d (i + 1) (out ++ [i]) (by omega) (by omega) (by simp only [List.length_append, List.length_singleton]; omega)) ?_
      rw [List.filter_cons_of_pos (p := fun c => dec (Has E v c)) (dec_t hv)]; simp
    · refine Ev.neg (by rw [dec_f hv]; simp) ?_
      refine Ev.cast (ev_l2Next_loop n E v hE hn d (i + 1) out (by omega) (by omega) (by omega)) ?_
      rw [List.filter_cons_of_neg (p := fun c => dec (Has E v c)) (by rw [dec_f hv]; simp)]
theorem ev_l2Next {n : Int} {E : List T} (v : Int) (hE : E.length ≤ 1048576) (h0 : 0 ≤ n) (hn : n ≤ 1000) : Ev (fun k => spec_l2Next.f k n E v) (nextL n E v) := by
  simp only [spec_l2Next.f]
  refine Ev.cast (ev_l2Next_loop n E v hE hn n.toNat 0 [] (by omega) (by omega) (by simp)) ?_
  rw [ksFrom_zero]; rfl
/-- What holds of a search for all that is come to: what is seen, and what waits. -/
structure Srch (n : Int) (E : List T) (a : Int) (seen : List Bool) (row : List Int) (at_ : Int → Prop) : Prop where
  len : seen.length = n.toNat
  ok : ∀ x, In n x → rdOf false seen x = true → Conn E a x
  rows : ∀ x ∈ row, In n x ∧ rdOf false seen x = true
  shut : ∀ x, In n x → rdOf false seen x = true → x ∈ row ∨ at_ x ∨ ∀ c, In n c → Has E x c → rdOf false seen c = true
  self : rdOf false seen a = true
theorem Srch.done {n : Int} {E : List T} {a : Int} {seen : List Bool} (h : OK n E) (ha : In n a) (s : Srch n E a seen [] (fun _ => False)) : seen = reachL n E a := by
  refine ext_rdB (by rw [s.len]; unfold reachL; rw [List.length_map, ks_length]) (fun x h0 hx => ?_)
  rw [s.len] at hx
  have hx' : In n x := ⟨h0, by omega⟩
  unfold reachL
  rw [rdB_mapks n _ x h0 hx'.2]
  refine dec_of ⟨s.ok x hx', fun hc => ?_⟩
  have := hc.keeps (P := fun y => In n y ∧ rdOf false seen y = true) (fun b c m k => ⟨(h.has m).2.1, ?_⟩) ⟨ha, s.self⟩
  · exact this.2
  · rcases s.shut b k.1 k.2 with e | e | e
    · simp at e
    · exact e.elim
    · exact e c (h.has m).2.1 m
theorem ev_WayReach_inner {n : Int} {E : List T} {a v : Int} (h : OK n E) (r : List Bool) (m : Nat) (hv : Conn E a v) (ha : 0 ≤ a)
    (hk : ∀ seen row, Srch n E a seen row (fun _ => False) → 2 * falses seen + row.length ≤ m → Ev (fun k => spec_WayReach.l0 k seen row n E) r) :
    ∀ (d j : Nat) (seen : List Bool) (row : List Int), j + d = (nextL n E v).length → Srch n E a seen row (· = v) → (∀ i < j, rdOf false seen (rd (nextL n E v) i) = true) → 2 * falses seen + row.length ≤ m → row.length + falses seen ≤ 100 →
      Ev (fun k => spec_WayReach.l1 k seen row (nextL n E v) j n E) r
  | 0, j, seen, row, hd, s, hj, hm, hb => by
    refine Ev.succ ?_
    simp only [spec_WayReach.l1]
    refine Ev.neg (by omega) (hk seen row ⟨s.len, s.ok, s.rows, fun x hx k => ?_, s.self⟩ hm)
    rcases s.shut x hx k with e | e | e
    · exact Or.inl e
    · subst e
      refine Or.inr (Or.inr (fun c hc hh => ?_))
      obtain ⟨i, hi, e⟩ := List.mem_iff_getElem.1 (mem_nextL.2 ⟨hc, hh⟩)
      have := hj i (by omega)
      rw [rd_getElem _ i hi, e] at this
      exact this
    · exact Or.inr (Or.inr e)
  | d + 1, j, seen, row, hd, s, hj, hm, hb => by
    have hjl : j < (nextL n E v).length := by omega
    have hl := nextL_length n E v
    have h8 := h.n8
    have hc := mem_nextL.1 (List.getElem_mem hjl)
    refine Ev.succ ?_
    simp only [spec_WayReach.l1, rd_getElem _ j hjl]
    have hcl : (nextL n E v)[j] < (seen.length : Int) := by have := s.len; have := hc.1.1; have := hc.1.2; omega
    refine Ev.pos (by omega) (Ev.pos (by omega) (Ev.pos hc.1.1 (Ev.pos hcl ?_)))
    rw [w64 (by omega)]
    by_cases e : rdOf false seen (nextL n E v)[j] = true
    · refine Ev.pos e ?_
      refine ev_WayReach_inner h r m hv ha hk d (j + 1) seen row (by omega) s (fun i hi => ?_) hm hb
      by_cases hij : i = j
      · subst hij; rw [rd_getElem _ i hjl]; exact e
      · exact hj i (by omega)
    · refine Ev.neg e (Ev.pos (by omega) ?_)
      have hset := rdB_set seen (nextL n E v)[j]
      have hf : falses (seen.set (nextL n E v)[j].toNat true) + 1 = falses seen := by
        refine falses_set seen _ (by have := hc.1.1; omega) ?_
        rw [rdB_i _ _ hc.1.1 hcl] at e
        exact Bool.eq_false_iff.2 e
      refine ev_WayReach_inner h r m hv ha hk d (j + 1) _ _ (by omega) ⟨by rw [List.length_set]; exact s.len, fun x hx => ?_, fun x hx => ?_, fun x hx => ?_, ?_⟩ (fun i hi => ?_) (by simp only [List.length_append, List.length_singleton]; omega) (by simp only [List.length_append, List.length_singleton]; omega)
      · rw [hset x true hc.1.1 hcl hx.1]
        split
        · next e => intro _; subst e; exact hv.step hc.2
        · exact s.ok x hx
      · rcases List.mem_append.1 hx with hx | hx
        · have := s.rows x hx
          rw [hset x true hc.1.1 hcl this.1.1]
          exact ⟨this.1, by split <;> simp_all⟩
        · rw [List.mem_singleton] at hx
          subst hx
          rw [hset _ true hc.1.1 hcl hc.1.1, if_pos rfl]
          exact ⟨hc.1, rfl⟩
      · rw [hset x true hc.1.1 hcl hx.1]
        split
        · next e => intro _; subst e; exact Or.inl (List.mem_append_right _ (by simp))
        · intro hk'
          rcases s.shut x hx hk' with e | e | e
          · exact Or.inl (List.mem_append_left _ e)
          · exact Or.inr (Or.inl e)
          · refine Or.inr (Or.inr (fun c hcc hh => ?_))
            rw [hset c true hc.1.1 hcl hcc.1]
            split
            · rfl
            · exact e c hcc hh
      · rw [hset a true hc.1.1 hcl ha]
        split
        · rfl
        · exact s.self
      · have hi' : i < (nextL n E v).length := by omega
        rw [hset _ true hc.1.1 hcl (by rw [rd_getElem _ i hi']; exact (mem_nextL.1 (List.getElem_mem hi')).1.1)]
        split
        · rfl
        · next e' =>
          by_cases hij : i = j
          · subst hij; exact absurd (rd_getElem _ i hjl) e'
          · exact hj i (by omega)
theorem ev_WayReach_outer {n : Int} {E : List T} {a : Int} (h : OK n E) (ha : In n a) : ∀ (m : Nat) (seen : List Bool) (row : List Int), Srch n E a seen row (fun _ => False) → 2 * falses seen + row.length ≤ m → m ≤ 100 →
    Ev (fun k => spec_WayReach.l0 k seen row n E) (reachL n E a)
  | m, seen, [], s, hm, hb => by
    refine Ev.succ ?_
    simp only [spec_WayReach.l0]
    exact Ev.neg (by simp) (Ev.some_ (s.done h ha))
  | 0, seen, v :: row, s, hm, hb => by simp at hm
  | m + 1, seen, v :: row, s, hm, hb => by
    simp only [List.length_cons] at hm
    refine Ev.succ ?_
    simp only [spec_WayReach.l0]
    have hl := h.length
    have r0 : rd (v :: row) 0 = v := rfl
    have hv := s.rows v List.mem_cons_self
    refine Ev.pos (by simp only [List.length_cons]; omega) (Ev.pos (by simp only [List.length_cons]; omega) (Ev.bind (a := nextL n E v) ?_ (Ev.pos (by simp only [List.length_cons]; omega) ?_)))
    · rw [r0]; exact ev_l2Next v (by omega) h.n0 (by have := h.n8; omega)
    · have hd : (v :: row).drop (1 : Int).toNat = row := rfl
      rw [hd]
      refine ev_WayReach_inner h (reachL n E a) m (s.ok v hv.1 hv.2) ha.1 (fun seen' row' s' hm' => ev_WayReach_outer h ha m seen' row' s' hm' (by omega)) (nextL n E v).length 0 seen row (by omega) ⟨s.len, s.ok, fun x hx => s.rows x (List.mem_cons_of_mem _ hx), fun x hx k => ?_, s.self⟩ (by intro i hi; omega) (by omega) (by omega)
      rcases s.shut x hx k with e | e | e
      · rcases List.mem_cons.1 e with e | e
        · exact Or.inr (Or.inl e)
        · exact Or.inl e
      · exact e.elim
      · exact Or.inr (Or.inr e)
theorem falses_replicate (m : Nat) : falses (List.replicate m false) = m := by
  induction m with
  | zero => rfl
  | succ m ih => rw [List.replicate_succ]; simp only [falses, ih]; simp; omega
/-- The reference's WayReach. -/
theorem ev_spec_WayReach {n : Int} {E : List T} {a : Int} (h : OK n E) (ha : In n a) : Ev (fun k => spec_WayReach.f k n E a) (reachL n E a) := by
  have h0 := h.n0
  have h8 := h.n8
  have hl := h.length
  simp only [spec_WayReach.f]
  refine Ev.bind (ev_l1Knot n E a (by omega) h.wf) (Ev.pos (dec_t ⟨h, ha⟩) (Ev.pos h0 (Ev.pos (by omega) (Ev.bind0 rfl (Ev.pos ha.1 (Ev.pos ?_ ?_))))))
  · rw [List.length_replicate]; have := ha.2; omega
  · have hla : a < ((List.replicate n.toNat false).length : Int) := by rw [List.length_replicate]; have := ha.2; omega
    have hset := fun x => rdB_set (List.replicate n.toNat false) a x true ha.1 hla
    have hrep : ∀ x, rdOf false (List.replicate n.toNat false) x = false := fun x => by
      unfold rdOf
      rw [List.getD_eq_getElem?_getD, List.getElem?_replicate]
      split <;> rfl
    have hf : falses ((List.replicate n.toNat false).set a.toNat true) + 1 = n.toNat := by
      rw [falses_set _ _ (by have := ha.1; omega) (by simp), falses_replicate]
    refine ev_WayReach_outer h ha 100 _ _ ⟨by simp, fun x hx k => ?_, fun x hx => ?_, fun x hx k => ?_, ?_⟩ (by simp only [List.length_singleton]; omega) (by omega)
    · rw [hset x hx.1] at k
      split at k
      · next e => subst e; exact .refl _
      · rw [hrep] at k; simp at k
    · rw [List.mem_singleton] at hx
      subst hx
      rw [hset x ha.1, if_pos rfl]
      exact ⟨ha, rfl⟩
    · rw [hset x hx.1] at k
      split at k
      · next e => subst e; exact Or.inl (by simp)
      · rw [hrep] at k; simp at k
    · rw [hset a ha.1, if_pos rfl]
theorem reachL_length (n : Int) (E : List T) (a : Int) : (reachL n E a).length = n.toNat := by unfold reachL; rw [List.length_map, ks_length]
theorem rd_reachL {n : Int} (E : List T) (a : Int) {b : Int} (hb : In n b) : rdOf false (reachL n E a) b = dec (Conn E a b) := by
  unfold reachL; rw [rdB_mapks n _ b hb.1 hb.2]
end Go.Proofs.Ytffflhmblelegaa.Th
namespace Go.Proofs.Ytffflhmblelegaa.Th
open Go.RowKit Go.Proofs.YtffflhmblelegaaW.PrintWords Go.Proofs.YtffflhmblelegaaW.PrintLast Go.Proofs.YtffflhmblelegaaW.PrintMore Go.Proofs.Ytffflhmblelegaa.F Classical
def meet (s t : T) : Int := if s.f0 = t.f0 ∧ s.f1 = t.f1 then -1 else if s.f0 = t.f0 ∨ s.f0 = t.f1 then s.f0 else if s.f1 = t.f0 ∨ s.f1 = t.f1 then s.f1 else -1
def otherK (t : T) (m : Int) : Int := if t.f0 = m then t.f1 else t.f0
theorem ev_l12Meet (s t : T) : Ev (fun k => spec_l12Meet.f k s.f0 s.f1 t.f0 t.f1) (meet s t) := by
  simp only [spec_l12Meet.f]
  unfold meet
  by_cases e : s.f0 = t.f0 ∧ s.f1 = t.f1
  · rw [if_pos e]
    exact Ev.pos (by simp [e.1, e.2]) (Ev.now _)
  · rw [if_neg e]
    refine Ev.neg (by simpa using e) ?_
    by_cases e0 : s.f0 = t.f0
    · rw [if_pos (Or.inl e0)]
      refine Ev.pos e0 (Ev.succ ?_)
      simp only [spec_l12Meet.j0]
      exact Ev.pos trivial (Ev.now _)
    · refine Ev.neg e0 (Ev.succ ?_)
      simp only [spec_l12Meet.j0]
      by_cases e1 : s.f0 = t.f1
      · rw [if_pos (Or.inr e1)]
        exact Ev.pos (by simpa using e1) (Ev.now _)
      · rw [if_neg (show ¬ (s.f0 = t.f0 ∨ s.f0 = t.f1) from fun k => k.elim e0 e1)]
        refine Ev.neg (by simpa using e1) ?_
        by_cases e2 : s.f1 = t.f0
        · rw [if_pos (Or.inl e2)]
          exact Ev.pos e2 (Ev.now _)
        · refine Ev.neg e2 ?_
          by_cases e3 : s.f1 = t.f1
          · rw [if_pos (Or.inr e3)]
            exact Ev.pos e3 (Ev.now _)
          · rw [if_neg (show ¬ (s.f1 = t.f0 ∨ s.f1 = t.f1) from fun k => k.elim e2 e3)]
            exact Ev.neg e3 (Ev.now _)
theorem other_eq (t : T) (m : Int) : spec_l12Other.f t.f0 t.f1 m = some (otherK t m) := by
  unfold spec_l12Other.f otherK
  split <;> rfl
theorem tie_other {n : Int} {E : List T} (h : OK n E) {t : T} (ht : t ∈ E) {m : Int} (hm : On t m) : t = tie m (otherK t m) ∧ otherK t m ≠ m ∧ On t (otherK t m) := by
  have hlt := h.tie t ht
  unfold otherK
  by_cases e : t.f0 = m
  · rw [if_pos e]
    exact ⟨by rw [← e]; exact (tie_self h ht).symm, by omega, Or.inr rfl⟩
  · rw [if_neg e]
    rcases hm with k | k
    · exact absurd k.symm e
    · exact ⟨by rw [k, tie_comm]; exact (tie_self h ht).symm, by omega, Or.inl rfl⟩
theorem meet_on {n : Int} {E : List T} (h : OK n E) {s t : T} (hs : s ∈ E) (_ht : t ∈ E) : meet s t = -1 ∨ s ≠ t ∧ On s (meet s t) ∧ On t (meet s t) ∧ 0 ≤ meet s t := by
  have h1 := h.tie s hs
  have hne : ¬ (s.f0 = t.f0 ∧ s.f1 = t.f1) → s ≠ t := fun k e => k (by rw [e]; exact ⟨rfl, rfl⟩)
  unfold meet
  split
  · exact Or.inl rfl
  · next e =>
    split
    · next k => exact Or.inr ⟨hne e, Or.inl rfl, k, by omega⟩
    · split
      · next k => exact Or.inr ⟨hne e, Or.inr rfl, k, by omega⟩
      · exact Or.inl rfl
theorem meet_eq {n : Int} {E : List T} (h : OK n E) {s t : T} (hs : s ∈ E) (ht : t ∈ E) (hst : s ≠ t) {k : Int} (h1 : On s k) (h2 : On t k) : meet s t = k := by
  have l1 := h.tie s hs
  have l2 := h.tie t ht
  have hne : ¬ (s.f0 = t.f0 ∧ s.f1 = t.f1) := fun e => hst (by rw [← tie_self h hs, ← tie_self h ht, e.1, e.2])
  unfold On at h1 h2
  unfold meet
  rw [if_neg hne]
  split
  · omega
  · split
    · omega
    · omega
theorem other_tie {k x : Int} (hx : x ≠ k) : otherK (tie k x) k = x := by
  unfold otherK tie
  by_cases e : k < x
  · rw [if_pos e]; simp
  · rw [if_neg e]; simp [hx]
theorem side_iff {n : Int} {E : List T} (h : OK n E) {s t : T} (hs : s ∈ E) (ht : t ∈ E) : (s ≠ t ∧ Side E s t) ↔ 0 ≤ meet s t ∧ Conn (lessK E (meet s t)) (otherK s (meet s t)) (otherK t (meet s t)) := by
  constructor
  · rintro ⟨hne, k, x, y, e1, e2, hx, hy, c⟩
    have hm : meet s t = k := meet_eq h hs ht hne (by rw [e1]; exact on_tie.2 (Or.inl rfl)) (by rw [e2]; exact on_tie.2 (Or.inl rfl))
    have h0 : 0 ≤ k := by
      have hk : On s k := by rw [e1]; exact on_tie.2 (Or.inl rfl)
      have := h.tie s hs
      unfold On at hk
      omega
    rw [hm, e1, e2, other_tie hx, other_tie hy]
    exact ⟨h0, c⟩
  · rintro ⟨h0, c⟩
    rcases meet_on h hs ht with k | ⟨hne, h1, h2, _⟩
    · omega
    · obtain ⟨a1, a2, _⟩ := tie_other h hs h1
      obtain ⟨b1, b2, _⟩ := tie_other h ht h2
      exact ⟨hne, meet s t, _, _, a1, b1, a2, b2, c⟩
theorem ev_l12Side {n : Int} {E : List T} (h : OK n E) {s t : T} (hs : s ∈ E) (ht : t ∈ E) : Ev (fun k => spec_l12Side.f k n E s.f0 s.f1 t.f0 t.f1) (dec (s ≠ t ∧ Side E s t)) := by
  have hi := side_iff h hs ht
  simp only [spec_l12Side.f]
  refine Ev.bind (ev_l12Meet s t) ?_
  by_cases m0 : meet s t < 0
  · exact Ev.pos m0 (Ev.some_ (dec_f (fun k => by have := (hi.1 k).1; omega)).symm)
  · refine Ev.neg m0 ?_
    rcases meet_on h hs ht with k | ⟨hne, h1, h2, _⟩
    · omega
    · obtain ⟨_, _, a3⟩ := tie_other h hs h1
      obtain ⟨_, _, b3⟩ := tie_other h ht h2
      have i1 := h.tie s hs
      have i2 := h.tie t ht
      have ins : ∀ {x}, On s x → In n x := fun {x} k => by unfold On at k; exact ⟨by omega, by omega⟩
      have int : ∀ {x}, On t x → In n x := fun {x} k => by unfold On at k; exact ⟨by omega, by omega⟩
      have hb := int b3
      refine Ev.bind (ev_spec_NetWithout h (ins h1)) (Ev.bind0 (other_eq s _) (Ev.bind (ev_spec_WayReach (h.less _) (ins a3)) (Ev.bind0 (other_eq t _) (Ev.pos hb.1 (Ev.pos (by rw [reachL_length]; have := hb.1; have := hb.2; omega) (Ev.some_ ?_))))))
      rw [rd_reachL _ _ hb]
      exact dec_congr ⟨fun k => hi.2 ⟨by omega, k⟩, fun k => (hi.1 k).2⟩
theorem LabT.nonneg {E : List T} {out : List Int} (s : LabT E out) : 0 ≤ out.sum := by
  refine sum_nonneg out (fun x hx => ?_)
  obtain ⟨i, hi, e⟩ := List.mem_iff_getElem.1 hx
  have := (s.low i (by omega) (by have := s.len; omega)).1
  rw [rd_getElem _ i hi, e] at this
  exact this
def StillTo (E : List T) (out : List Int) (i k : Int) : Prop := ∀ i' k' : Int, 0 ≤ i' → i' < E.length → 0 ≤ k' → k' < E.length → (i' < i ∨ i' = i ∧ k' < k) → ¬ (rd out k' < rd out i' ∧ at_ E i' ≠ at_ E k' ∧ Side E (at_ E i') (at_ E k'))
def PassT (E : List T) (out0 out : List Int) (ag : Bool) (i k : Int) : Prop := ag = true ∧ out.sum < out0.sum ∨ ag = false ∧ out = out0 ∧ StillTo E out0 i k
theorem ev_labels_l3 {n : Int} {E : List T} (h : OK n E) (out0 r : List Int) {i : Nat} (hi : i < E.length) (hk : ∀ out ag, LabT E out → PassT E out0 out ag ((i : Int) + 1) 0 → Ev (fun k => spec_l12Labels.l2 k out ag ((i : Int) + 1) n E) r) :
    ∀ (d j : Nat) (out : List Int) (ag : Bool), j + d = E.length → LabT E out → PassT E out0 out ag i j → Ev (fun k => spec_l12Labels.l3 k out ag i j n E) r
  | 0, j, out, ag, hd, l, p => by
    have hlE := h.length
    refine Ev.succ ?_
    simp only [spec_l12Labels.l3]
    refine Ev.neg (by omega) ?_
    rw [w64 (by omega)]
    refine hk out ag l ?_
    rcases p with p | ⟨p, e, q⟩
    · exact Or.inl p
    · exact Or.inr ⟨p, e, fun i' k' a1 a2 a3 a4 a5 => q i' k' a1 a2 a3 a4 (by omega)⟩
  | d + 1, j, out, ag, hd, l, p => by
    have hj : j < E.length := by omega
    have hlE := h.length
    have hln := l.len
    have ai : at_ E (i : Int) = E[i] := at_nat E i hi
    have aj : at_ E (j : Int) = E[j] := at_nat E j hj
    refine Ev.succ ?_
    simp only [spec_l12Labels.l3]
    rw [rd_T_nat E i hi, rd_T_nat E j hj, w64 (by omega)]
    refine Ev.pos (by omega) (Ev.pos (by omega) (Ev.pos (by omega) (Ev.pos (by omega) (Ev.pos (by omega) ?_))))
    have skip : ¬ (rd out j < rd out i ∧ at_ E (i : Int) ≠ at_ E (j : Int) ∧ Side E (at_ E i) (at_ E j)) → Ev (fun k => spec_l12Labels.l3 k out ag i ((j : Int) + 1) n E) r := fun hno => by
      have := ev_labels_l3 h out0 r hi hk d (j + 1) out ag (by omega) l (by
        rcases p with p | ⟨p, e, q⟩
        · exact Or.inl p
        · refine Or.inr ⟨p, e, fun i' k' a1 a2 a3 a4 a5 => ?_⟩
          by_cases e2 : i' = i ∧ k' = j
          · rw [e2.1, e2.2, ← e]; exact hno
          · exact q i' k' a1 a2 a3 a4 (by omega))
      exact_mod_cast this
    by_cases hlt : rd out (j : Int) < rd out (i : Int)
    · refine Ev.pos hlt (Ev.pos (by omega) (Ev.bind (ev_l12Side h (List.getElem_mem hi) (List.getElem_mem hj)) ?_))
      by_cases hs : E[i] ≠ E[j] ∧ Side E E[i] E[j]
      · refine Ev.pos (dec_t hs) ?_
        have l2 := l.set h (i := (i : Int)) (k := (j : Int)) (by omega) (by omega) (by omega) (by omega) hlt (by rw [ai, aj]; exact hs.2)
        have hsum : (out.set (i : Int).toNat (rd out j)).sum < out.sum := by
          rw [sum_set _ _ _ (by omega)]
          have : rd out (i : Int) = out[(i : Int).toNat]'(by omega) := rd_i out _ (by omega) (by omega)
          omega
        have := ev_labels_l3 h out0 r hi hk d (j + 1) _ true (by omega) l2 (Or.inl ⟨rfl, by
          rcases p with p | ⟨_, e, _⟩
          · omega
          · rw [e] at hsum; rw [e]; exact hsum⟩)
        exact_mod_cast this
      · refine Ev.neg (by rw [dec_f hs]; simp) (skip (fun k => hs ?_))
        rw [ai, aj] at k
        exact k.2
    · exact Ev.neg hlt (skip (fun k => hlt k.1))
theorem ev_labels_l2 {n : Int} {E : List T} (h : OK n E) (out0 r : List Int) (hk : ∀ out ag, LabT E out → PassT E out0 out ag E.length 0 → Ev (fun k => spec_l12Labels.l1 k out ag n E) r) :
    ∀ (d i : Nat) (out : List Int) (ag : Bool), i + d = E.length → LabT E out → PassT E out0 out ag i 0 → Ev (fun k => spec_l12Labels.l2 k out ag i n E) r
  | 0, i, out, ag, hd, l, p => by
    refine Ev.succ ?_
    simp only [spec_l12Labels.l2]
    refine Ev.neg (by omega) (hk out ag l ?_)
    rw [show (E.length : Int) = (i : Int) by omega]
    exact p
  | d + 1, i, out, ag, hd, l, p => by
    refine Ev.succ ?_
    simp only [spec_l12Labels.l2]
    refine Ev.pos (by omega) ?_
    have := ev_labels_l3 h out0 r (i := i) (by omega) (fun out' ag' l' p' => by
      have := ev_labels_l2 h out0 r hk d (i + 1) out' ag' (by omega) l' (by exact_mod_cast p')
      exact_mod_cast this) E.length 0 out ag (by omega) l (by exact_mod_cast p)
    exact_mod_cast this
/-- The labels in the end. -/
def LabDone (E : List T) (out : List Int) : Prop := LabT E out ∧ Still E out
theorem LabDone.uniq {n : Int} {E : List T} (h : OK n E) {L M : List Int} (l : LabDone E L) (m : LabDone E M) : L = M := by
  refine ext_rd (by rw [l.1.len, m.1.len]) (fun x h0 hx => ?_)
  have hx' : x < E.length := by rw [← l.1.len]; exact hx
  have hm := m.1.low x h0 hx'
  exact (l.1.eq_iff h l.2 hm.1 (by omega) h0 hx' (m.1.fst h m.2 h0 hx')).2 (m.1.bl x h0 hx')
theorem labDone_ex {n : Int} {E : List T} (h : OK n E) : ∀ (m : Nat) (out : List Int), LabT E out → out.sum ≤ m → ∃ L, LabDone E L := by
  intro m
  induction m with
  | zero =>
    intro out l hm
    refine ⟨out, l, fun i k h0 h1 h2 h3 q => ?_⟩
    have l2 := l.set h h0 h1 h2 h3 q.1 q.2.2
    have hsum : (out.set i.toNat (rd out k)).sum < out.sum := by
      rw [sum_set _ _ _ (by rw [l.len]; omega)]
      have : rd out i = out[i.toNat]'(by rw [l.len]; omega) := rd_i out _ h0 (by rw [l.len]; exact h1)
      have := q.1
      omega
    have := l2.nonneg
    omega
  | succ m ih =>
    intro out l hm
    by_cases s : Still E out
    · exact ⟨out, l, s⟩
    · unfold Still at s
      simp only [Classical.not_forall, Classical.not_not] at s
      obtain ⟨i, k, h0, h1, h2, h3, q⟩ := s
      have l2 := l.set h h0 h1 h2 h3 q.1 q.2.2
      have hsum : (out.set i.toNat (rd out k)).sum < out.sum := by
        rw [sum_set _ _ _ (by rw [l.len]; omega)]
        have : rd out i = out[i.toNat]'(by rw [l.len]; omega) := rd_i out _ h0 (by rw [l.len]; exact h1)
        have := q.1
        omega
      exact ih _ l2 (by omega)
theorem ev_labels_l1 {n : Int} {E : List T} (h : OK n E) {L : List Int} (hL : LabDone E L) : ∀ (m : Nat) (out : List Int), LabT E out → out.sum ≤ m → Ev (fun k => spec_l12Labels.l1 k out true n E) L
  | m, out, l, hm => by
    refine Ev.succ ?_
    simp only [spec_l12Labels.l1]
    refine Ev.pos trivial ?_
    have := ev_labels_l2 h out L (fun out' ag l' p => ?_) E.length 0 out false (by omega) l (Or.inr ⟨rfl, rfl, fun i' k' a1 a2 a3 a4 a5 => by omega⟩)
    · exact_mod_cast this
    · rcases p with ⟨rfl, p⟩ | ⟨rfl, rfl, p⟩
      · cases m with
        | zero => have := l'.nonneg; omega
        | succ m => exact ev_labels_l1 h hL m out' l' (by omega)
      · refine Ev.succ ?_
        simp only [spec_l12Labels.l1]
        refine Ev.neg (by simp) (Ev.some_ ?_)
        exact (hL.uniq h ⟨l', fun i k a1 a2 a3 a4 => p i k a1 a2 a3 a4 (by omega)⟩).symm
theorem ev_labels_l0 {n : Int} {E : List T} (h : OK n E) {L : List Int} (hL : LabDone E L) : ∀ (d i : Nat), i + d = E.length → Ev (fun k => spec_l12Labels.l0 k (ks i) i n E) L
  | 0, i, hd => by
    refine Ev.succ ?_
    simp only [spec_l12Labels.l0]
    refine Ev.neg (by omega) ?_
    rw [show (i : Int) = E.length by omega]
    have l := LabT.start h
    exact ev_labels_l1 h hL (ks E.length).sum.toNat _ l (by have := l.nonneg; omega)
  | d + 1, i, hd => by
    have hlE := h.length
    refine Ev.succ ?_
    simp only [spec_l12Labels.l0]
    refine Ev.pos (by omega) (Ev.pos (by rw [ks_length]; omega) ?_)
    rw [w64 (by omega), ← ks_succ (by omega)]
    have := ev_labels_l0 h hL d (i + 1) (by omega)
    exact_mod_cast this
theorem ev_l12Labels {n : Int} {E : List T} (h : OK n E) : ∃ L, Ev (fun k => spec_l12Labels.f k n E) L ∧ LabDone E L := by
  have l := LabT.start h
  obtain ⟨L, hL⟩ := labDone_ex h (ks E.length).sum.toNat _ l (by have := l.nonneg; omega)
  refine ⟨L, ?_, hL⟩
  simp only [spec_l12Labels.f]
  exact ev_labels_l0 h hL E.length 0 (by omega)
theorem ev_BlockListE_l1 {n : Int} {E : List T} (h : OK n E) {L : List Int} (hL : LabDone E L) {x : Nat} (hx : x < E.length) (hf : Fst E E[x]) {out : List (List T)} (ho : out.length ≤ 64) {r : List (List T)} (hk : Ev (fun k => spec_BlockList.l0 k (out ++ [blockL E E[x]]) L ((x : Int) + 1) n E) r) :
    ∀ (d i : Nat) (acc : List T), i + d = E.length → acc.length ≤ i → acc ++ (E.drop i).filter (fun s => dec (Bl E E[x] s)) = blockL E E[x] → Ev (fun k => spec_BlockList.l1 k out L x acc i n E) r
  | 0, i, acc, hd, ha, he => by
    have hlE := h.length
    have hln := hL.1.len
    refine Ev.succ ?_
    simp only [spec_BlockList.l1]
    refine Ev.neg (by omega) (Ev.pos (by omega) ?_)
    rw [List.drop_of_length_le (by omega), List.filter_nil, List.append_nil] at he
    rw [w64 (by omega), he]
    exact hk
  | d + 1, i, acc, hd, ha, he => by
    have hi : i < E.length := by omega
    have hlE := h.length
    have hln := hL.1.len
    have hiff : rd L (i : Int) = (x : Int) ↔ Bl E E[x] E[i] := by
      have := hL.1.eq_iff h hL.2 (i := (x : Int)) (k := (i : Int)) (by omega) (by omega) (by omega) (by omega) (by rw [at_nat E x hx]; exact hf)
      rwa [at_nat E x hx, at_nat E i hi] at this
    have e1 : E.drop i = E[i] :: E.drop (i + 1) := List.drop_eq_getElem_cons hi
    rw [e1] at he
    refine Ev.succ ?_
    simp only [spec_BlockList.l1]
    rw [rd_T_nat E i hi, w64 (by omega)]
    refine Ev.pos (by omega) (Ev.pos (by omega) ?_)
    by_cases k : Bl E E[x] E[i]
    · rw [List.filter_cons_of_pos (p := fun s => dec (Bl E E[x] s)) (dec_t k)] at he
      refine Ev.pos (hiff.2 k) (Ev.pos (by omega) (Ev.pos (by omega) ?_))
      have := ev_BlockListE_l1 h hL hx hf ho hk d (i + 1) (acc ++ [E[i]]) (by omega) (by simp; omega) (by rw [List.append_assoc]; exact he)
      exact_mod_cast this
    · rw [List.filter_cons_of_neg (p := fun s => dec (Bl E E[x] s)) (by rw [dec_f k]; simp)] at he
      refine Ev.neg (fun q => k (hiff.1 q)) ?_
      have := ev_BlockListE_l1 h hL hx hf ho hk d (i + 1) acc (by omega) (by omega) he
      exact_mod_cast this
theorem ev_BlockListE_l0 {n : Int} {E : List T} (h : OK n E) {L : List Int} (hL : LabDone E L) : ∀ (d i : Nat) (out : List (List T)), i + d = E.length → out.length ≤ i →
    Ev (fun k => spec_BlockList.l0 k out L i n E) (out ++ ((E.drop i).filter (fun t => dec (Fst E t))).map (blockL E))
  | 0, i, out, hd, ho => by
    have hln := hL.1.len
    refine Ev.succ ?_
    simp only [spec_BlockList.l0]
    refine Ev.neg (by omega) (Ev.some_ ?_)
    rw [List.drop_of_length_le (by omega)]; simp
  | d + 1, i, out, hd, ho => by
    have hi : i < E.length := by omega
    have hlE := h.length
    have hln := hL.1.len
    have hself : rd L (i : Int) = (i : Int) ↔ Fst E E[i] := by
      have := hL.1.self_iff h hL.2 (i := (i : Int)) (by omega) (by omega)
      rwa [at_nat E i hi] at this
    have e1 : E.drop i = E[i] :: E.drop (i + 1) := List.drop_eq_getElem_cons hi
    rw [e1]
    refine Ev.succ ?_
    simp only [spec_BlockList.l0]
    refine Ev.pos (by omega) (Ev.pos (by omega) ?_)
    by_cases k : Fst E E[i]
    · rw [List.filter_cons_of_pos (p := fun t => dec (Fst E t)) (dec_t k), List.map_cons]
      refine Ev.pos (hself.2 k) ?_
      have := ev_BlockListE_l0 h hL d (i + 1) (out ++ [blockL E E[i]]) (by omega) (by simp; omega)
      rw [List.append_assoc] at this
      have key := ev_BlockListE_l1 h hL hi k (out := out) (by omega) (by exact_mod_cast this) E.length 0 [] (by omega) (by simp) (by rw [List.drop_zero, List.nil_append]; rfl)
      exact_mod_cast key
    · rw [List.filter_cons_of_neg (p := fun t => dec (Fst E t)) (by rw [dec_f k]; simp)]
      refine Ev.neg (fun q => k (hself.1 q)) ?_
      rw [w64 (by omega)]
      have := ev_BlockListE_l0 h hL d (i + 1) out (by omega) (by omega)
      exact_mod_cast this
theorem ev_spec_BlockList (n : Int) (E : List T) (hE : E.length ≤ 1048576) (hw : WF E) : Ev (fun k => spec_BlockList.f k n E) (blockList n E) := by
  simp only [spec_BlockList.f]
  refine Ev.bind0 (a := []) rfl (Ev.bind (ev_spec_NetOk n E hE hw) ?_)
  unfold blockList
  by_cases h : OK n E
  · rw [if_pos h]
    obtain ⟨L, h1, h2⟩ := ev_l12Labels h
    refine Ev.pos (dec_t h) (Ev.bind h1 ?_)
    have := ev_BlockListE_l0 h h2 E.length 0 [] (by omega) (by simp)
    rw [List.drop_zero, List.nil_append] at this
    exact_mod_cast this
  · rw [if_neg h]
    exact Ev.neg (by rw [dec_f h]; simp) (Ev.now _)
end Go.Proofs.Ytffflhmblelegaa.Th
namespace Go.Proofs.Ytffflhmblelegaa.Th
open Go.RowKit Go.Proofs.YtffflhmblelegaaW.PrintWords Go.Proofs.YtffflhmblelegaaW.PrintMore Go.Proofs.Ytffflhmblelegaa.F
theorem ev_l2Has (l : List Int) (x : Int) (hl : l.length ≤ 1048576) : Ev (fun k => spec_l2Has.f k l x) (dec (x ∈ l)) := by
  simp only [spec_l2Has.f]
  have := any_loop (L := fun k i => spec_l2Has.l0 k l x i) l.length (fun j => rd l (j : Int) = x) ?_ ?_ ?_ l.length 0 (by omega)
  · exact Ev.cast this (dec_congr (mem_iff_rd l x).symm)
  · refine Ev.succ ?_
    simp only [spec_l2Has.l0]
    exact Ev.neg (by omega) (Ev.now _)
  · intro i hi hp b hb
    refine Ev.succ ?_
    simp only [spec_l2Has.l0]
    refine Ev.pos (by omega) (Ev.pos (by omega) (Ev.neg hp ?_))
    rw [w64 (by omega)]
    exact hb
  · intro i hi hp
    refine Ev.succ ?_
    simp only [spec_l2Has.l0]
    exact Ev.pos (by omega) (Ev.pos (by omega) (Ev.pos hp (Ev.now _)))
end Go.Proofs.Ytffflhmblelegaa.Th
namespace Go.Proofs.Ytffflhmblelegaa.Th
open Go.RowKit Go.Proofs.YtffflhmblelegaaW.PrintWords Go.Proofs.YtffflhmblelegaaW.PrintLast Go.Proofs.YtffflhmblelegaaW.PrintMore Go.Proofs.Ytffflhmblelegaa.F Classical
noncomputable def addIf (p : Prop) (acc : List Int) (v : Int) : List Int := @ite _ p (Classical.propDecidable p) (acc ++ [v]) acc
theorem addIf_t {p : Prop} (h : p) (acc : List Int) (v : Int) : addIf p acc v = acc ++ [v] := by unfold addIf; rw [if_pos h]
theorem addIf_f {p : Prop} (h : ¬ p) (acc : List Int) (v : Int) : addIf p acc v = acc := by unfold addIf; rw [if_neg h]
theorem addIf_len (p : Prop) (acc : List Int) (v : Int) : (addIf p acc v).length ≤ acc.length + 1 := by
  by_cases h : p
  · rw [addIf_t h]; simp
  · rw [addIf_f h]; omega
theorem ev_bknE_l2 {n : Int} {E : List T} {R : List (List T)} {i : Nat} (hi : i < R.length) (hR : R.length ≤ 1000) (hr : R[i].length ≤ 1000) {out : List (List Int)} {acc0 : List Int} (hacc : acc0.length ≤ 1000) {v : Int} (hv0 : 0 ≤ v) (hv8 : v ≤ 8) (hno : v ∉ acc0) {r : List (List Int)}
    (hk : Ev (fun k => spec_BlockKnots.l1 k out R i (addIf (∃ t ∈ R[i], On t v) acc0 v) (v + 1) n E) r) : ∀ (d j : Nat) (acc : List Int), j + d = R[i].length → acc = addIf (∃ t ∈ R[i].take j, On t v) acc0 v →
    Ev (fun k => spec_BlockKnots.l2 k out R i acc v j n E) r
  | 0, j, acc, hd, he => by
    refine Ev.succ ?_
    simp only [spec_BlockKnots.l2]
    rw [rdLt_at R i hi, w64 (x := v + 1) (by omega)]
    refine Ev.pos (by omega) (Ev.pos (by omega) (Ev.neg (by omega) ?_))
    rw [List.take_of_length_le (by omega)] at he
    rw [he]; exact hk
  | d + 1, j, acc, hd, he => by
    have hj : j < R[i].length := by omega
    have e1 : R[i].take (j + 1) = R[i].take j ++ [R[i][j]] := (List.take_append_getElem hj).symm
    have hal : acc.length ≤ 1001 := by rw [he]; have := addIf_len (∃ t ∈ R[i].take j, On t v) acc0 v; omega
    have hw : wrap64 ((j : Int) + 1) = ((j + 1 : Nat) : Int) := by rw [w64 (by omega)]; omega
    refine Ev.succ ?_
    simp only [spec_BlockKnots.l2]
    rw [rdLt_at R i hi, rd_T_nat R[i] j hj, hw]
    refine Ev.pos (by omega) (Ev.pos (by omega) (Ev.pos (by omega) (Ev.bind (ev_l2Has acc v (by omega)) ?_)))
    by_cases ho : ∃ t ∈ R[i].take j, On t v
    · rw [addIf_t ho] at he
      refine Ev.pos (by rw [he]; exact dec_t (by simp)) ?_
      refine ev_bknE_l2 hi hR hr hacc hv0 hv8 hno hk d (j + 1) acc (by omega) ?_
      rw [he, addIf_t (by rw [e1]; obtain ⟨t, m, o⟩ := ho; exact ⟨t, List.mem_append.2 (Or.inl m), o⟩)]
    · rw [addIf_f ho] at he
      refine Ev.neg (by rw [he, dec_f hno]; simp) (Ev.pos (by omega) ?_)
      have hyes : On R[i][j] v → (∃ t ∈ R[i].take (j + 1), On t v) := fun o => by rw [e1]; exact ⟨_, List.mem_append.2 (Or.inr (List.mem_singleton.2 rfl)), o⟩
      have app : On R[i][j] v → Ev (fun k => spec_BlockKnots.l2 k out R i (acc ++ [v]) v ((j + 1 : Nat) : Int) n E) r := fun o =>
        ev_bknE_l2 hi hR hr hacc hv0 hv8 hno hk d (j + 1) (acc ++ [v]) (by omega) (by rw [addIf_t (hyes o), he])
      by_cases k0 : R[i][j].f0 = v
      · exact Ev.pos k0 (Ev.pos (by omega) (app (Or.inl k0.symm)))
      · refine Ev.neg k0 ?_
        by_cases k1 : R[i][j].f1 = v
        · exact Ev.pos k1 (Ev.pos (by omega) (app (Or.inr k1.symm)))
        · refine Ev.neg k1 ?_
          refine ev_bknE_l2 hi hR hr hacc hv0 hv8 hno hk d (j + 1) acc (by omega) ?_
          rw [addIf_f ?_, he]
          rintro ⟨t, m, o⟩
          rw [e1] at m
          rcases List.mem_append.1 m with m | m
          · exact ho ⟨t, m, o⟩
          · rw [List.mem_singleton] at m
            subst m
            rcases o with o | o
            · exact k0 o.symm
            · exact k1 o.symm
theorem ev_bknE_l1 {n : Int} {E : List T} (hn8 : n ≤ 8) {R : List (List T)} {i : Nat} (hi : i < R.length) (hR : R.length ≤ 1000) (hr : R[i].length ≤ 1000) {out : List (List Int)} (hout : out.length ≤ 1000) {r : List (List Int)}
    (hk : Ev (fun k => spec_BlockKnots.l0 k (out ++ [knotsL n R[i]]) R ((i : Int) + 1) n E) r) : ∀ (d : Nat) (v : Int), 0 ≤ v → v + d = n → Ev (fun k => spec_BlockKnots.l1 k out R i ((ks v).filter (fun k => dec (∃ t ∈ R[i], On t k))) v n E) r
  | 0, v, h0, hd => by
    refine Ev.succ ?_
    simp only [spec_BlockKnots.l1]
    refine Ev.neg (by omega) (Ev.pos (by omega) ?_)
    rw [w64 (by omega), show v = n by omega]
    exact hk
  | d + 1, v, h0, hd => by
    have hl : ((ks v).filter (fun k => dec (∃ t ∈ R[i], On t k))).length ≤ 8 := by
      have := List.length_filter_le (fun k => dec (∃ t ∈ R[i], On t k)) (ks v)
      rw [ks_length] at this
      omega
    refine Ev.succ ?_
    simp only [spec_BlockKnots.l1]
    refine Ev.pos (by omega) ?_
    have ih := ev_bknE_l1 hn8 hi hR hr hout hk d (v + 1) (by omega) (by omega)
    refine ev_bknE_l2 hi hR hr (acc0 := (ks v).filter (fun k => dec (∃ t ∈ R[i], On t k))) (by omega) h0 (by omega) (fun m => by
      have := mem_ks.1 (List.mem_filter.1 m).1
      omega) ?_ R[i].length 0 _ (by omega) (by rw [List.take_zero, addIf_f (by simp)])
    rw [ks_succ h0, List.filter_append] at ih
    by_cases k : ∃ t ∈ R[i], On t v
    · rw [addIf_t k]
      rw [List.filter_cons_of_pos (p := fun k => dec (∃ t ∈ R[i], On t k)) (dec_t k), List.filter_nil] at ih
      exact ih
    · rw [addIf_f k]
      rw [List.filter_cons_of_neg (p := fun k => dec (∃ t ∈ R[i], On t k)) (by rw [dec_f k]; simp), List.filter_nil, List.append_nil] at ih
      exact ih
theorem ev_bknE_l0 {n : Int} {E : List T} (hn0 : 0 ≤ n) (hn8 : n ≤ 8) {R : List (List T)} (hR : R.length ≤ 1000) (hr : ∀ b ∈ R, b.length ≤ 1000) : ∀ (d i : Nat) (out : List (List Int)), i + d = R.length → out.length ≤ i →
    Ev (fun k => spec_BlockKnots.l0 k out R i n E) (out ++ (R.drop i).map (knotsL n))
  | 0, i, out, hd, ho => by
    refine Ev.succ ?_
    simp only [spec_BlockKnots.l0]
    refine Ev.neg (by omega) (Ev.some_ ?_)
    rw [List.drop_of_length_le (by omega)]; simp
  | d + 1, i, out, hd, ho => by
    have hi : i < R.length := by omega
    refine Ev.succ ?_
    simp only [spec_BlockKnots.l0]
    rw [show R.drop i = R[i] :: R.drop (i + 1) from List.drop_eq_getElem_cons hi, List.map_cons]
    refine Ev.pos (by omega) ?_
    have := ev_bknE_l0 (E := E) hn0 hn8 hR hr d (i + 1) (out ++ [knotsL n R[i]]) (by omega) (by simp; omega)
    rw [List.append_assoc] at this
    have key := ev_bknE_l1 (E := E) hn8 hi hR (hr _ (List.getElem_mem hi)) (out := out) (by omega) (by exact_mod_cast this) n.toNat 0 (by omega) (by omega)
    exact key
theorem ev_spec_BlockKnots (n : Int) (E : List T) (hE : E.length ≤ 1048576) (hw : WF E) : Ev (fun k => spec_BlockKnots.f k n E) (blockKnots n E) := by
  simp only [spec_BlockKnots.f]
  refine Ev.bind (ev_spec_BlockList n E hE hw) ?_
  obtain ⟨z1, z2⟩ := blockList_len n E hE
  unfold blockKnots
  by_cases h : OK n E
  · have hlE := h.length
    have e : blockList n E = blocksL E := by unfold blockList; rw [if_pos h]
    rw [if_pos h]
    have := ev_bknE_l0 (E := E) h.n0 h.n8 (R := blockList n E) (by omega) (fun b hb => by have := z2 b hb; omega) (blockList n E).length 0 [] (by omega) (by simp)
    rw [List.drop_zero, List.nil_append, e] at this
    rw [e]
    exact_mod_cast this
  · rw [if_neg h]
    have e : blockList n E = [] := by unfold blockList; rw [if_neg h]
    rw [e]
    refine Ev.succ ?_
    simp only [spec_BlockKnots.l0]
    exact Ev.neg (by simp) (Ev.now _)
end Go.Proofs.Ytffflhmblelegaa.Th
namespace Go.Proofs.Ytffflhmblelegaa.Th
open Go.RowKit Go.Proofs.YtffflhmblelegaaW.PrintWords Go.Proofs.YtffflhmblelegaaW.PrintMore Go.Proofs.Ytffflhmblelegaa.F
abbrev LT := S117
def conv (l : List LT) : List T := l.map fun t => ⟨t.f0, t.f1⟩
theorem conv_length (l : List LT) : (conv l).length = l.length := by simp [conv]
theorem conv_wf (l : List LT) (h : l.length ≤ maxLen ∧ ∀ x ∈ l, (Lit.int .i64 x.f0).wf = true ∧ (Lit.int .i64 x.f1).wf = true) : WF (conv l) := by
  intro t ht
  obtain ⟨s, hs, rfl⟩ := List.mem_map.1 ht
  exact ⟨wf_i64 (h.2 s hs).1, wf_i64 (h.2 s hs).2⟩
theorem rd_LT_nat (E : List LT) (i : Nat) (h : i < E.length) : rd_T117 E i = E[i] := by
  simp [rd_T117, List.getD_eq_getElem?_getD, List.getElem?_eq_getElem h]
theorem szNet (n : Int) (l : List LT) (hl : l.length ≤ maxLen) : laws_szNet.f n l 1048576 = some (if (l.length : Int) ≤ 1048576 then (1048576 : Int) - (l.length : Int) else (-1 : Int)) := by
  unfold maxLen at hl
  unfold laws_szNet.f laws_szTieS.f
  rw [w64 (by omega)]
  by_cases h : (l.length : Int) ≤ 1048576
  · rw [if_neg (by omega), if_pos h]
    simp only [Option.bind_some]
    rw [if_neg (by omega)]
  · rw [if_pos (by omega), if_neg h]
    simp only [Option.bind_some]
    rw [if_pos (by omega)]
theorem ev_toTieS_loop (l : List LT) (hl : l.length ≤ 1048576) : ∀ (d i : Nat) (acc : List T), i + d = l.length → acc = (conv l).take i ++ List.replicate d z52 → Ev (fun k => laws_toTieS.l0 k l acc i) (conv l)
  | 0, i, acc, h, ha => by
    refine Ev.succ ?_
    simp only [laws_toTieS.l0]
    refine Ev.neg (by omega) (Ev.some_ ?_)
    rw [ha, List.replicate_zero, List.append_nil, List.take_of_length_le (by rw [conv_length]; omega)]
  | d + 1, i, acc, h, ha => by
    have hlen : acc.length = l.length := by rw [ha]; simp [conv_length]; omega
    have hi : i < l.length := by omega
    have hci : i < (conv l).length := by rw [conv_length]; exact hi
    refine Ev.succ ?_
    simp only [laws_toTieS.l0, rd_LT_nat l i hi]
    refine Ev.pos (by omega) (Ev.pos (by omega) (Ev.bind0 rfl (Ev.pos (by omega) ?_)))
    rw [w64 (by omega)]
    refine ev_toTieS_loop l hl d (i + 1) _ (by omega) ?_
    rw [ha, Int.toNat_natCast, List.take_succ_eq_append_getElem hci, List.set_append_right _ _ (by simp; omega), List.append_assoc]
    congr 1
    simp [List.replicate_succ, conv, show i - min i l.length = 0 by omega]
theorem ev_toTieS (l : List LT) (hl : l.length ≤ 1048576) : Ev (fun k => laws_toTieS.f k l) (conv l) := by
  simp only [laws_toTieS.f]
  refine Ev.pos (by omega) (Ev.pos (by omega) ?_)
  exact ev_toTieS_loop l hl l.length 0 _ (by omega) (by simp)
theorem ev_toNet (n : Int) (l : List LT) (hl : l.length ≤ 1048576) : Ev (fun k => laws_toNet.f k n l) (n, conv l) := by
  simp only [laws_toNet.f]
  exact Ev.bind (ev_toTieS l hl) (Ev.now _)
theorem ev_eqTieS_loop (l : List T) (hl : l.length ≤ 1048576) : ∀ (d i : Nat), i + d = l.length → Ev (fun k => laws_eqTieS.l0 k l l i) true
  | 0, i, h => by
    refine Ev.succ ?_
    simp only [laws_eqTieS.l0]
    exact Ev.neg (by omega) (Ev.now _)
  | d + 1, i, h => by
    refine Ev.succ ?_
    simp only [laws_eqTieS.l0]
    refine Ev.pos (by omega) (Ev.pos (by omega) (Ev.pos (by omega) (Ev.bind0 (a := true) (by simp [laws_eqTie.f]) (Ev.pos (by first | rfl | trivial) ?_))))
    rw [w64 (by omega)]
    exact ev_eqTieS_loop l hl d (i + 1) (by omega)
theorem ev_eqTieS (l : List T) (hl : l.length ≤ 1048576) : Ev (fun k => laws_eqTieS.f k l l) true := by
  simp only [laws_eqTieS.f]
  exact Ev.pos (by first | rfl | trivial) (ev_eqTieS_loop l hl l.length 0 (by omega))
theorem ev_eqNet (n : Int) (l : List T) (hl : l.length ≤ 1048576) : Ev (fun k => laws_eqNet.f k n l n l) true := by
  simp only [laws_eqNet.f]
  exact Ev.pos (by first | rfl | trivial) (Ev.bind (ev_eqTieS l hl) (Ev.pos (by first | rfl | trivial) (Ev.now _)))
end Go.Proofs.Ytffflhmblelegaa.Th
namespace Go.Proofs.Ytffflhmblelegaa.Th
open Go.RowKit Go.Proofs.YtffflhmblelegaaW.PrintWords Go.Proofs.YtffflhmblelegaaW.PrintLast Go.Proofs.YtffflhmblelegaaW.PrintMore Go.Proofs.Ytffflhmblelegaa.F
theorem ev_markTieS_loop : ∀ (d i : Nat) (l : List T) (a : Int), i + d = l.length → l.length ≤ 1048576 → 0 ≤ a ∧ a ≤ 4 * i + 4 → ∃ m out, Ev (fun k => laws_markTieS.l0 k l a i) (m, out) ∧ 0 ≤ m
  | 0, i, l, a, h, hl, ha => by
    refine ⟨a, l, Ev.succ ?_, ha.1⟩
    simp only [laws_markTieS.l0]
    exact Ev.neg (by omega) (Ev.now _)
  | d + 1, i, l, a, h, hl, ha => by
    obtain ⟨m, out, hm, h0⟩ := ev_markTieS_loop d (i + 1) ((l.set (i : Int).toNat (⟨a, (rd_T52 l i).f1⟩ : T)).set (i : Int).toNat (⟨(rd_T52 (l.set (i : Int).toNat (⟨a, (rd_T52 l i).f1⟩ : T)) i).f0, a + 1⟩ : T)) (a + 2) (by simp; omega) (by simpa using hl) (by omega)
    refine ⟨m, out, Ev.succ ?_, h0⟩
    simp only [laws_markTieS.l0]
    refine Ev.pos (by omega) (Ev.pos (by omega) (Ev.bind0 rfl ?_))
    rw [w64 (x := a + 1) (by omega), w64 (x := a + 1 + 1) (by omega), w64 (x := (i : Int) + 1) (by omega), show a + 1 + 1 = a + 2 by omega]
    exact hm
theorem ev_markNet (n : Int) (E : List T) (hE : E.length ≤ 1048576) : ∃ m out, Ev (fun k => laws_markNet.f k n E 1) (m, out) ∧ ¬ m < 0 := by
  obtain ⟨m, out, hm, h0⟩ := ev_markTieS_loop E.length 0 E 1 (by omega) hE (by omega)
  refine ⟨m, out, ?_, by omega⟩
  simp only [laws_markNet.f, laws_markTieS.f]
  exact Ev.bind hm (Ev.now _)
theorem ev_markIntC_loop {c : Int} (hc : 0 ≤ c ∧ c ≤ 100000000) : ∀ (d i : Nat) (l : List Int), i + d = l.length → l.length ≤ 1048576 → (∀ j : Int, 0 ≤ j → j < i → rd l j = c + j) → ∃ out, Ev (fun k => laws_markIntS.l0 k l (c + i) i) (c + l.length, out) ∧ out.length = l.length ∧ (∀ j : Int, 0 ≤ j → j < out.length → rd out j = c + j)
  | 0, i, l, h, hl, hp => by
    refine ⟨l, Ev.succ ?_, rfl, fun j h0 h1 => hp j h0 (by omega)⟩
    simp only [laws_markIntS.l0]
    exact Ev.neg (by omega) (Ev.some_ (by congr 1; omega))
  | d + 1, i, l, h, hl, hp => by
    obtain ⟨out, h1, h2, h3⟩ := ev_markIntC_loop hc d (i + 1) (l.set (i : Int).toNat (c + i)) (by rw [List.length_set]; omega) (by rw [List.length_set]; omega) (fun j h0 h1 => by
      rw [rd_set _ _ _ _ (by omega) (by omega) h0]
      split
      · next e => rw [e]
      · exact hp j h0 (by omega))
    rw [List.length_set] at h1 h2
    refine ⟨out, Ev.succ ?_, h2, h3⟩
    simp only [laws_markIntS.l0]
    refine Ev.pos (by omega) (Ev.pos (by omega) ?_)
    rw [w64 (x := c + (i : Int) + 1) (by omega), w64 (x := (i : Int) + 1) (by omega), show c + (i : Int) + 1 = c + ((i + 1 : Nat) : Int) by omega]
    exact h1
theorem ev_heldIntC_loop {c : Int} (hc : 0 ≤ c ∧ c ≤ 100000000) (l : List Int) (hl : l.length ≤ 1048576) (hp : ∀ j : Int, 0 ≤ j → j < l.length → rd l j = c + j) : ∀ (d i : Nat), i + d = l.length → Ev (fun k => laws_heldIntS.l0 k l (c + i) i) (c + l.length)
  | 0, i, h => by
    refine Ev.succ ?_
    simp only [laws_heldIntS.l0]
    exact Ev.neg (by omega) (Ev.some_ (by omega))
  | d + 1, i, h => by
    refine Ev.succ ?_
    simp only [laws_heldIntS.l0]
    refine Ev.pos (by omega) (Ev.pos (by omega) (Ev.pos (hp i (by omega) (by omega)) ?_))
    rw [w64 (x := c + (i : Int) + 1) (by omega), w64 (x := (i : Int) + 1) (by omega), show c + (i : Int) + 1 = c + ((i + 1 : Nat) : Int) by omega]
    exact ev_heldIntC_loop hc l hl hp d (i + 1) (by omega)
theorem ev_markIntC (c : Int) (hc : 0 ≤ c ∧ c ≤ 100000000) (l : List Int) (hl : l.length ≤ 1048576) : ∃ out, Ev (fun k => laws_markIntS.f k l c) (c + l.length, out) ∧ Ev (fun k => laws_heldIntS.f k out c) (c + l.length) := by
  obtain ⟨out, h1, h2, h3⟩ := ev_markIntC_loop hc l.length 0 l (by omega) hl (by intro j h0 h1; omega)
  refine ⟨out, ?_, ?_⟩
  · simp only [laws_markIntS.f]
    rw [show c + ((0 : Nat) : Int) = c by omega] at h1
    exact h1
  · simp only [laws_heldIntS.f]
    have := ev_heldIntC_loop hc out (by omega) h3 out.length 0 (by omega)
    rw [h2, show c + ((0 : Nat) : Int) = c by omega] at this
    exact this
theorem ev_eqIntS_loop (l : List Int) (hl : l.length ≤ 1048576) : ∀ (d i : Nat), i + d = l.length → Ev (fun k => laws_eqIntS.l0 k l l i) true
  | 0, i, h => by
    refine Ev.succ ?_
    simp only [laws_eqIntS.l0]
    refine Ev.neg (by omega) ?_
    exact Ev.now _
  | d + 1, i, h => by
    refine Ev.succ ?_
    simp only [laws_eqIntS.l0]
    refine Ev.pos (by omega) ?_
    refine Ev.pos (by omega) ?_
    refine Ev.pos (by omega) ?_
    refine Ev.pos (by first | rfl | trivial) ?_
    rw [w64 (by omega)]
    exact ev_eqIntS_loop l hl d (i + 1) (by omega)
theorem ev_eqIntS (l : List Int) (hl : l.length ≤ 1048576) : Ev (fun k => laws_eqIntS.f k l l) true := by
  simp only [laws_eqIntS.f]
  refine Ev.pos (by first | rfl | trivial) ?_
  exact ev_eqIntS_loop l hl l.length 0 (by omega)
theorem rdMI {X : List (List Int)} {j : Nat} {r : List Int} (h : X[j]? = some r) : rd_L2 X (j : Int) = r := by
  unfold rd_L2
  rw [Int.toNat_natCast, List.getD_eq_getElem?_getD, h]
  rfl
/-- Where the numbers of row j begin. -/
def offI : List (List Int) → Nat → Int
  | _, 0 => 1
  | [], _ + 1 => 1
  | r :: R, j + 1 => r.length + offI R j
theorem offI_succ : ∀ (R : List (List Int)) (j : Nat) (h : j < R.length), offI R (j + 1) = offI R j + R[j].length
  | [], j, h => by simp at h
  | r :: R, 0, _ => by
    have e0 : offI (r :: R) 0 = 1 := by unfold offI; rfl
    have e1 : offI R 0 = 1 := by unfold offI; rfl
    rw [e0, offI, e1, List.getElem_cons_zero]; omega
  | r :: R, j + 1, h => by
    have := offI_succ R j (by simpa using h)
    rw [offI, this, offI, List.getElem_cons_succ]; omega
theorem offI_bound {R : List (List Int)} (hr : ∀ r ∈ R, r.length ≤ 1000) : ∀ j : Nat, j ≤ R.length → 1 ≤ offI R j ∧ offI R j ≤ 1 + 2000 * j
  | 0, _ => by
    have e0 : offI R 0 = 1 := by unfold offI; rfl
    rw [e0]; omega
  | j + 1, h => by
    have ih := offI_bound hr j (by omega)
    have := hr _ (List.getElem_mem (show j < R.length by omega))
    rw [offI_succ R j (by omega)]
    omega
theorem ev_markIntSS_loop {R : List (List Int)} (hR : R.length ≤ 1000) (hr : ∀ r ∈ R, r.length ≤ 1000) : ∀ (d i : Nat) (X : List (List Int)), i + d = R.length → X.length = R.length → (∀ j, i ≤ j → X[j]? = R[j]?) →
    (∀ j, j < i → ∃ row, X[j]? = some row ∧ Ev (fun k => laws_heldIntS.f k row (offI R j)) (offI R (j + 1))) →
    ∃ out, Ev (fun k => laws_markIntSS.l0 k X (offI R i) i) (offI R R.length, out) ∧ out.length = R.length ∧ (∀ j, j < R.length → ∃ row, out[j]? = some row ∧ Ev (fun k => laws_heldIntS.f k row (offI R j)) (offI R (j + 1)))
  | 0, i, X, hd, hX, h1, h2 => by
    refine ⟨X, Ev.succ ?_, hX, fun j hj => h2 j (by omega)⟩
    simp only [laws_markIntSS.l0]
    have e : i = R.length := by omega
    subst e
    exact Ev.neg (by omega) (Ev.now _)
  | d + 1, i, X, hd, hX, h1, h2 => by
    have hi : i < R.length := by omega
    have hb := offI_bound hr i (by omega)
    have hl := hr _ (List.getElem_mem hi)
    have hXi : X[i]? = some R[i] := by rw [h1 i (by omega), List.getElem?_eq_getElem hi]
    obtain ⟨row, m1, m2⟩ := ev_markIntC (offI R i) (by omega) R[i] (by omega)
    rw [← offI_succ R i hi] at m1 m2
    have hset : (X.set i row)[i]? = some row := List.getElem?_set_self (by omega)
    obtain ⟨out, k1, k2, k3⟩ := ev_markIntSS_loop hR hr d (i + 1) (X.set i row) (by omega) (by rw [List.length_set]; exact hX) (fun j hj => by rw [List.getElem?_set_ne (by omega)]; exact h1 j (by omega)) (fun j hj => by
      by_cases e : j = i
      · subst e; exact ⟨row, hset, m2⟩
      · rw [List.getElem?_set_ne (fun k => e k.symm)]; exact h2 j (by omega))
    refine ⟨out, Ev.succ ?_, k2, k3⟩
    simp only [laws_markIntSS.l0]
    rw [rdMI hXi, Int.toNat_natCast, w64 (x := (i : Int) + 1) (by omega)]
    refine Ev.pos (by omega) (Ev.pos (by omega) (Ev.bind m1 ?_))
    exact_mod_cast k1
theorem ev_heldIntSS_loop {R out : List (List Int)} (hR : R.length ≤ 1000) (hr : ∀ r ∈ R, r.length ≤ 1000) (hl : out.length = R.length) (h : ∀ j, j < R.length → ∃ row, out[j]? = some row ∧ Ev (fun k => laws_heldIntS.f k row (offI R j)) (offI R (j + 1))) : ∀ (d i : Nat), i + d = R.length →
    Ev (fun k => laws_heldIntSS.l0 k out (offI R i) i) (offI R R.length)
  | 0, i, hd => by
    refine Ev.succ ?_
    simp only [laws_heldIntSS.l0]
    have e : i = R.length := by omega
    subst e
    exact Ev.neg (by omega) (Ev.now _)
  | d + 1, i, hd => by
    have hi : i < R.length := by omega
    obtain ⟨row, r1, r2⟩ := h i hi
    have hb := offI_bound hr (i + 1) (by omega)
    have := ev_heldIntSS_loop hR hr hl h d (i + 1) (by omega)
    refine Ev.succ ?_
    simp only [laws_heldIntSS.l0]
    rw [rdMI r1, w64 (x := (i : Int) + 1) (by omega)]
    refine Ev.pos (by omega) (Ev.pos (by omega) (Ev.bind r2 (Ev.neg (by omega) ?_)))
    exact_mod_cast this
theorem ev_markIntSS (R : List (List Int)) (hR : R.length ≤ 1000) (hr : ∀ r ∈ R, r.length ≤ 1000) : ∃ m out, 0 ≤ m ∧ Ev (fun k => laws_markIntSS.f k R 1) (m, out) ∧ Ev (fun k => laws_heldIntSS.f k out 1) m := by
  have e0 : offI R 0 = 1 := by unfold offI; rfl
  obtain ⟨out, k1, k2, k3⟩ := ev_markIntSS_loop hR hr R.length 0 R (by omega) rfl (fun _ _ => rfl) (fun j hj => by omega)
  have k4 := ev_heldIntSS_loop hR hr k2 k3 R.length 0 (by omega)
  have hb := offI_bound hr R.length (by omega)
  rw [e0] at k1 k4
  refine ⟨offI R R.length, out, by omega, ?_, ?_⟩
  · simp only [laws_markIntSS.f]
    exact_mod_cast k1
  · simp only [laws_heldIntSS.f]
    exact_mod_cast k4
theorem ev_eqIntSS_loop (R : List (List Int)) (hR : R.length ≤ 1000) (hr : ∀ r ∈ R, r.length ≤ 1000) : ∀ (d i : Nat), i + d = R.length → Ev (fun k => laws_eqIntSS.l0 k R R i) true
  | 0, i, hd => by
    refine Ev.succ ?_
    simp only [laws_eqIntSS.l0]
    exact Ev.neg (by omega) (Ev.now _)
  | d + 1, i, hd => by
    have hi : i < R.length := by omega
    have hl := hr _ (List.getElem_mem hi)
    have := ev_eqIntSS_loop R hR hr d (i + 1) (by omega)
    refine Ev.succ ?_
    simp only [laws_eqIntSS.l0]
    rw [rdMI (List.getElem?_eq_getElem hi), w64 (x := (i : Int) + 1) (by omega)]
    refine Ev.pos (by omega) (Ev.pos (by omega) (Ev.pos (by omega) (Ev.bind (ev_eqIntS R[i] (by omega)) (Ev.pos rfl ?_))))
    exact_mod_cast this
theorem ev_eqIntSS (R : List (List Int)) (hR : R.length ≤ 1000) (hr : ∀ r ∈ R, r.length ≤ 1000) : Ev (fun k => laws_eqIntSS.f k R R) true := by
  simp only [laws_eqIntSS.f]
  refine Ev.pos trivial ?_
  have := ev_eqIntSS_loop R hR hr R.length 0 (by omega)
  exact_mod_cast this
end Go.Proofs.Ytffflhmblelegaa.Th
namespace Go.Proofs.Ytffflhmblelegaa.Pure
open Go.RowKit Go.Proofs.YtffflhmblelegaaW.PrintWords Go.Proofs.YtffflhmblelegaaW.PrintMore Go.Proofs.Ytffflhmblelegaa.F Go.Proofs.Ytffflhmblelegaa.Th
theorem blockKnots_small (n : Int) (E : List T) : (blockKnots n E).length ≤ 1000 ∧ ∀ b ∈ blockKnots n E, b.length ≤ 1000 := by
  obtain ⟨z1, z2⟩ := blockKnots_len n E
  by_cases h : OK n E
  · have := h.length
    exact ⟨by omega, fun b hb => by have := z2 b hb; omega⟩
  · have e : blockKnots n E = [] := by unfold blockKnots; rw [if_neg h]
    rw [e]; simp
theorem FnExactBlockKnots : laws_FnExactBlockKnots.Pure := by
  intro n l hn hl
  refine Ev.rounds (g := fun k => laws_FnExactBlockKnots.f k n l) ?_
  simp only [laws_FnExactBlockKnots.f]
  refine Ev.bind0 (szNet n l hl.1) ?_
  by_cases h3 : (l.length : Int) ≤ 1048576
  · rw [if_pos h3]
    have c := conv_length l
    have w := conv_wf l hl
    obtain ⟨z1, z2⟩ := blockKnots_small n (conv l)
    have heq := ev_eqIntSS (blockKnots n (conv l)) z1 z2
    refine Ev.neg (by omega) (Ev.bind (ev_toNet n l (by omega)) (Ev.bind (ev_spec_BlockKnots n (conv l) (by omega) w) (Ev.bind (ev_toNet n l (by omega)) (Ev.bind (ev_impl_BlockKnots n (conv l) (by omega)) ?_))))
    refine Ev.bind heq (Ev.pos rfl ?_)
    refine Ev.bind (ev_toNet n l (by omega)) (Ev.bind (ev_eqNet n (conv l) (by omega)) (Ev.pos (by first | rfl | trivial) ?_))
    obtain ⟨m, out, hm, h0⟩ := ev_markNet n (conv l) (by omega)
    refine Ev.bind hm (Ev.neg h0 (Ev.bind heq ?_))
    refine Ev.succ ?_
    simp only [laws_FnExactBlockKnots.j0]
    obtain ⟨m', out', hm0, h1, h2⟩ := ev_markIntSS (blockKnots n (conv l)) z1 z2
    refine Ev.neg (by simp) (Ev.bind h1 (Ev.bind h2 (Ev.neg (by omega) (Ev.pos rfl ?_))))
    refine Ev.bind (ev_toNet n l (by omega)) (Ev.bind (ev_impl_BlockKnots n (conv l) (by omega)) (Ev.bind heq (Ev.pos rfl ?_)))
    exact Ev.bind h2 (Ev.neg (by omega) (Ev.pos rfl (Ev.now _)))
  · rw [if_neg h3]
    exact Ev.pos (by omega) (Ev.now _)
end Go.Proofs.Ytffflhmblelegaa.Pure
