/-
The program's FlowOk answers what the reference's answers, for all arguments: the plain statement, without Go.
-/
import Derived.Test.YtdlnnjgjfngccaaWs
import Derived.WalkKit
import Derived.ProofKit
import Derived.Deep.Slices
import Derived.ChangeSame
import Derived.Test.YtdlnnjgjfngccaaF0
import Derived.Test.YtdlnnjgjfngccaaF14
import Derived.Test.YtdlnnjgjfngccaaF8
import Derived.Test.YtdlnnjgjfngccaaF19
import Derived.Test.YtdlnnjgjfngccaaF17
import Derived.Test.YtdlnnjgjfngccaaF9
import Derived.Test.YtdlnnjgjfngccaaF20
import Derived.Test.YtdlnnjgjfngccaaF25
import Derived.Test.YtdlnnjgjfngccaaF24
import Derived.Test.YtdlnnjgjfngccaaF10
import Derived.Test.YtdlnnjgjfngccaaF55
import Derived.Test.YtdlnnjgjfngccaaF56
import Derived.Test.YtdlnnjgjfngccaaF2
import Derived.Test.YtdlnnjgjfngccaaF4
import Derived.Test.YtdlnnjgjfngccaaF5
import Derived.Test.YtdlnnjgjfngccaaF7
import Derived.Test.YtdlnnjgjfngccaaF57
namespace Go.Proofs.Ytdlnnjgjfngccaa.Op
open Go.ChangeShapes Go.WideShapes Go.Deep Go.Proofs.YtdlnnjgjfngccaaW.PrintWords
/-- Whatever reads as data of type t is told by the kind d, and I holds of it. -/
def Opens {α : Type} (P : Program) (t : TypeId) (d : Kd α) (I : α → Prop) : Prop :=
  ∀ {H : Type} (enc : TypeId × Value → H) (W : World) (base : Nat) (held : Bool) (fuel : Nat) (cs : List Value) (x : DataW H × List MemPlace),
    DataW.trod enc P W base (fun _ => true) held fuel t cs = some x → ∃ a, I a ∧ d.K W a cs
theorem opens_int {P : Program} {t : TypeId} {k : IntKind} (ht : P.underlying t = some (.int k)) : Opens P t (Kd.int k) (fun x => (Lit.int k x).wf = true) := by
  intro H enc W base held fuel cs x h
  obtain ⟨n, rfl, _, hw⟩ := DataW.trod_int ht h
  exact ⟨n, hw, rfl⟩
theorem opens_pair {α β : Type} {P : Program} {t : TypeId} {f0 f1 : Field} {d0 : Kd α} {d1 : Kd β} {I0 : α → Prop} {I1 : β → Prop} (ht : P.underlying t = some (.struct #[f0, f1]))
    (h0 : Opens P f0.type d0 I0) (h1 : Opens P f1.type d1 I1) (o0 : f0.offset = 0) (o1 : f1.offset = P.cellsOf f0.type) (hC : P.cellsOf t = P.cellsOf f0.type + P.cellsOf f1.type) :
    Opens P t (Kd.pair d0 d1) (fun x => I0 x.1 ∧ I1 x.2) := by
  intro H enc W base held fuel cs x h
  obtain ⟨y0, y1, n, _, hl, g0, g1⟩ := trod_struct2 ht h
  obtain ⟨a0, i0, k0⟩ := h0 enc W base held n _ _ g0
  obtain ⟨a1, i1, k1⟩ := h1 enc W base held n _ _ g1
  refine ⟨(a0, a1), ⟨i0, i1⟩, _, _, ?_, k0, k1⟩
  rw [o0, o1, List.drop_zero, List.take_of_length_le (l := cs.drop _) (by rw [List.length_drop]; omega), List.take_append_drop]
theorem opens_iso {α β : Type} {P : Program} {t : TypeId} {d : Kd α} {I : α → Prop} (f : β → α) (g : α → β) (hf : ∀ a, f (g a) = a) (h : Opens P t d I) : Opens P t (Kd.iso d f) (fun b => I (f b)) := by
  intro H enc W base held fuel cs x hx
  obtain ⟨a, i, k⟩ := h enc W base held fuel cs x hx
  refine ⟨g a, ?_, ?_⟩
  · show I (f (g a))
    rw [hf]; exact i
  · show d.K W (f (g a)) cs
    rw [hf]; exact k
theorem opens_slice {α : Type} [Inhabited α] {P : Program} {t e : TypeId} {d : Kd α} {I : α → Prop} (ht : P.underlying t = some (.slice e)) (hC : P.cellsOf e = d.sz) (h : Opens P e d I) :
    Opens P t (Kd.slice e d) (fun l => l.length ≤ maxLen ∧ ∀ x ∈ l, I x) := by
  intro H enc W base held fuel cs x hx
  rcases open_slice ht hx with ⟨rfl, _⟩ | ⟨a, len, cap, m, n, D, Pl, rfl, hb, hl, hm, hmm, _, hi⟩
  · exact ⟨[], ⟨Nat.zero_le _, fun _ h => by cases h⟩, none, 0, rfl, Nat.le_refl _, rfl, Nat.zero_le _, fun h => absurd h (Nat.lt_irrefl 0)⟩
  · simp only [if_true] at hmm
    rw [hmm] at hi
    clear hmm
    have each : ∀ i, i < len → ∃ y : α, I y ∧ ∃ cs', cs'.length = d.sz ∧ d.K W y cs' ∧ ∀ j u, cs'[j]? = some u → W.cell? (a.add (i * d.sz + j)) = some u := by
      intro i hi'
      obtain ⟨cs', hc, hd⟩ := hi i (by omega)
      obtain ⟨y, iy, ky⟩ := h enc W base held n _ _ hd
      rw [hC] at hc
      obtain ⟨_, hcl, hat⟩ := World.cells?_some hc
      refine ⟨y, iy, cs', hcl, ky, fun j u hu => ?_⟩
      have hj := (List.getElem?_eq_some_iff.1 hu).1
      rw [← Go.Deep.add_add, hat j (by omega), hu]
    obtain ⟨f, hf⟩ := choose_lt each
    refine ⟨(List.range len).map f, ⟨by simpa using Nat.le_trans hl hm, ?_⟩, some a, cap, ?_, ?_, rfl, ?_, ?_⟩
    · intro x hx
      obtain ⟨i, hi', rfl⟩ := List.mem_map.1 hx
      exact (hf i (List.mem_range.1 hi')).1
    · simp
    · simpa using hl
    · have := Nat.le_trans hl hm
      unfold maxLen at this
      simpa using this
    · intro _
      refine ⟨a, rfl, fun j p hj => ?_⟩
      obtain ⟨hj', rfl⟩ := List.getElem?_eq_some_iff.1 hj
      simp only [List.getElem_map, List.getElem_range]
      obtain ⟨_, cs', h1, h2, h3⟩ := hf j (by simpa using hj')
      exact ⟨cs', h1, h2, h3⟩
/-- A slice as an argument. -/
theorem Opens.asSlice {H : Type} {enc : TypeId × Value → H} {α : Type} {P : Program} {t e : TypeId} {d : Kd α} {I : List α → Prop} (h : Opens P t (Kd.slice e d) I) {W : World} {base : Nat} {held : Bool} {A : Option Addr} {n c : Nat} {x : DataW H} {ps : List MemPlace}
    (hx : DataW.Trod enc P W base (fun _ => true) held t (.slice A n c) x ps) : ∃ l, n = l.length ∧ I l ∧ l.length ≤ c ∧ d.C W A l.length l := by
  obtain ⟨fuel, hf⟩ := hx
  obtain ⟨l, il, A', c', hcs, hl, hC⟩ := h enc W base held fuel _ _ hf
  simp only [Value.cells, List.cons.injEq, and_true, Value.slice.injEq] at hcs
  obtain ⟨rfl, rfl, rfl⟩ := hcs
  exact ⟨l, rfl, il, hl, hC⟩
/-- A struct as an argument. -/
theorem Opens.asStruct {H : Type} {enc : TypeId × Value → H} {α : Type} {P : Program} {t : TypeId} {d : Kd α} {I : α → Prop} (h : Opens P t d I) {W : World} {base : Nat} {held : Bool} {cs : Array Value} {x : DataW H} {ps : List MemPlace}
    (hx : DataW.Trod enc P W base (fun _ => true) held t (.agg cs) x ps) : ∃ a, I a ∧ d.K W a cs.toList := by
  obtain ⟨fuel, hf⟩ := hx
  exact h enc W base held fuel _ _ hf
end Go.Proofs.Ytdlnnjgjfngccaa.Op
namespace Go.Proofs.Ytdlnnjgjfngccaa.Th
open Go.RowKit Go.Proofs.YtdlnnjgjfngccaaW.PrintWords Go.Proofs.YtdlnnjgjfngccaaW.PrintLast Go.Proofs.YtdlnnjgjfngccaaW.PrintMore Go.Proofs.Ytdlnnjgjfngccaa.F
theorem w64 {x : Int} (h : -9223372036854775808 ≤ x ∧ x ≤ 9223372036854775807) : wrap64 x = x := by unfold wrap64; omega
theorem wf_i64 {x : Int} (h : (Lit.int .i64 x).wf = true) : -9223372036854775808 ≤ x ∧ x ≤ 9223372036854775807 := by
  simp only [Lit.wf, Bool.and_eq_true, decide_eq_true_eq] at h
  exact h
theorem Ev.succ {α : Type} {g : Nat → Option α} {r : α} (h : Ev (fun k => g (k + 1)) r) : Ev g r := Ev.step (fun _ => rfl) h
theorem Ev.some_ {α : Type} {r s : α} (h : s = r) : Ev (fun _ => some s) r := by subst h; exact Ev.now _
theorem Ev.pos {α : Type} {c : Prop} [Decidable c] {a b : Nat → Option α} {r : α} (hc : c) (h : Ev a r) : Ev (fun k => if c then a k else b k) r := Ev.congr (fun _ => if_pos hc) h
theorem Ev.neg {α : Type} {c : Prop} [Decidable c] {a b : Nat → Option α} {r : α} (hc : ¬ c) (h : Ev b r) : Ev (fun k => if c then a k else b k) r := Ev.congr (fun _ => if_neg hc) h
/-- A callee without rounds. -/
theorem Ev.bind0 {α β : Type} {o : Option α} {a : α} {f : Nat → α → Option β} {r : β} (h : o = some a) (k : Ev (fun n => f n a) r) : Ev (fun n => o.bind (f n)) r := by subst h; exact k
theorem Ev.cast {α : Type} {g : Nat → Option α} {r s : α} (h : Ev g r) (e : r = s) : Ev g s := e ▸ h
/-- A proposition as a Bool. -/
noncomputable def dec (p : Prop) : Bool := @decide p (Classical.propDecidable p)
theorem dec_iff {p : Prop} : dec p = true ↔ p := by unfold dec; exact @decide_eq_true_iff p (Classical.propDecidable p)
theorem dec_t {p : Prop} (h : p) : dec p = true := dec_iff.2 h
theorem dec_f {p : Prop} (h : ¬ p) : dec p = false := by
  cases e : dec p with
  | false => rfl
  | true => exact absurd (dec_iff.1 e) h
theorem dec_of {b : Bool} {p : Prop} (h : b = true ↔ p) : b = dec p := by rw [Bool.eq_iff_iff, h, dec_iff]
theorem dec_congr {p q : Prop} (h : p ↔ q) : dec p = dec q := by rw [Bool.eq_iff_iff, dec_iff, dec_iff, h]
theorem Ev.tt {g : Nat → Option Bool} {p : Prop} (hp : p) (h : Ev g true) : Ev g (dec p) := by rw [dec_t hp]; exact h
theorem Ev.ff {g : Nat → Option Bool} {p : Prop} (hp : ¬ p) (h : Ev g false) : Ev g (dec p) := by rw [dec_f hp]; exact h
theorem Ev.dec {g : Nat → Option Bool} {p : Prop} {b : Bool} (h : Ev g b) (hb : b = true ↔ p) : Ev g (dec p) := Ev.cast h (dec_of hb)
theorem rd_nat (l : List Int) (i : Nat) : rd l (i : Int) = l.getD i 0 := by simp [rd]
end Go.Proofs.Ytdlnnjgjfngccaa.Th
namespace Go.Proofs.Ytdlnnjgjfngccaa.Th
open Go.RowKit Go.Proofs.YtdlnnjgjfngccaaW.PrintWords Go.Proofs.YtdlnnjgjfngccaaW.PrintMore Go.Proofs.Ytdlnnjgjfngccaa.F
abbrev T := S73
theorem T.ext {s t : T} (h0 : s.f0 = t.f0) (h1 : s.f1 = t.f1) : s = t := by cases s; cases t; simp_all
instance : DecidableEq T := fun a b => decidable_of_iff (a.f0 = b.f0 ∧ a.f1 = b.f1) ⟨fun h => T.ext h.1 h.2, fun h => by subst h; exact ⟨rfl, rfl⟩⟩
instance : Inhabited T := ⟨⟨0, 0⟩⟩
/-- The order of ties. -/
def lt (s t : T) : Prop := s.f0 < t.f0 ∨ s.f0 = t.f0 ∧ s.f1 < t.f1
instance (s t : T) : Decidable (lt s t) := inferInstanceAs (Decidable (_ ∨ _))
theorem lt_irrefl (s : T) : ¬ lt s s := by unfold lt; omega
theorem lt_trans {s t u : T} (h : lt s t) (k : lt t u) : lt s u := by unfold lt at *; omega
/-- Strictly ascending. -/
def Asc (E : List T) : Prop := E.Pairwise lt
/-- Neighbours ascend. -/
def AscN : List T → Bool
  | [] => true
  | [_] => true
  | s :: t :: r => decide (lt s t) && AscN (t :: r)
theorem ascN_iff : ∀ E : List T, AscN E = true ↔ Asc E
  | [] => by simp [AscN, Asc]
  | [_] => by simp [AscN, Asc]
  | s :: t :: r => by
    have ih := ascN_iff (t :: r)
    simp only [AscN, Bool.and_eq_true, decide_eq_true_eq, ih, Asc, List.pairwise_cons]
    constructor
    · rintro ⟨h, k, m⟩
      refine ⟨fun u hu => ?_, k, m⟩
      rcases List.mem_cons.1 hu with rfl | hu
      · exact h
      · exact lt_trans h (k u hu)
    · rintro ⟨h, k⟩
      exact ⟨h t (by simp), k⟩
/-- A valid net of n knots. -/
structure OK (n : Int) (E : List T) : Prop where
  n0 : 0 ≤ n
  n8 : n ≤ 8
  tie : ∀ t ∈ E, 0 ≤ t.f0 ∧ t.f0 < t.f1 ∧ t.f1 < n
  asc : Asc E
theorem rd_T_nat (E : List T) (i : Nat) (h : i < E.length) : rd_T73 E i = E[i] := by
  simp [rd_T73, List.getD_eq_getElem?_getD, List.getElem?_eq_getElem h]
/-- How many ties there can be. -/
theorem asc_length (E : List T) (h : Asc E) : ∀ m : Nat, (∀ t ∈ E, 0 ≤ t.f0 * 8 + t.f1 ∧ t.f1 < 8 ∧ 0 ≤ t.f1 ∧ t.f0 * 8 + t.f1 < m) → E.length ≤ m := by
  -- the numbers 8 a + b ascend
  have key : ∀ (E : List T), Asc E → ∀ lo m : Int, lo ≤ m → (∀ t ∈ E, lo ≤ t.f0 * 8 + t.f1 ∧ t.f1 < 8 ∧ 0 ≤ t.f1 ∧ t.f0 * 8 + t.f1 < m) → (E.length : Int) ≤ m - lo := by
    intro E
    induction E with
    | nil => intro _ lo m h _; simp; omega
    | cons s r ih =>
      intro ha lo m hlm hb
      have hs := hb s (by simp)
      have := ih (List.Pairwise.of_cons ha) (s.f0 * 8 + s.f1 + 1) m (by omega) (fun t ht => by
        have h1 := (List.pairwise_cons.1 ha).1 t ht
        have h2 := hb t (by simp [ht])
        unfold lt at h1
        omega)
      simp only [List.length_cons]
      omega
  intro m hb
  have := key E h 0 m (by omega) (fun t ht => by have := hb t ht; omega)
  omega
theorem OK.length {n : Int} {E : List T} (h : OK n E) : E.length ≤ 64 := by
  refine asc_length E h.asc 64 (fun t ht => ?_)
  have := h.tie t ht
  have := h.n8
  omega
theorem l6In (a b c : Int) : spec_l6In.f a b c = some (decide (b ≤ a ∧ a ≤ c)) := by
  unfold spec_l6In.f
  by_cases h : a ≥ b
  · rw [if_pos h]; congr 1; exact decide_eq_decide.2 (by omega)
  · rw [if_neg h]; congr 1; symm; exact decide_eq_false (by omega)
theorem l1Less (s t : T) : spec_l1Less.f s.f0 s.f1 t.f0 t.f1 = some (decide (lt s t)) := by
  unfold spec_l1Less.f lt
  by_cases h : s.f0 < t.f0
  · rw [if_pos h]; congr 1; symm; exact decide_eq_true (by omega)
  · rw [if_neg h]
    by_cases k : s.f0 = t.f0
    · rw [if_pos k]; congr 1; exact decide_eq_decide.2 (by omega)
    · rw [if_neg k]; congr 1; symm; exact decide_eq_false (by omega)
/-- What a round asks of the tie at i. -/
def okAt (n : Int) (E : List T) (i : Nat) : Bool :=
  match E[i]? with
  | none => true
  | some t => decide (0 ≤ t.f0 ∧ t.f0 ≤ n - 1) && decide (t.f0 + 1 ≤ t.f1 ∧ t.f1 ≤ n - 1) && (match i with | 0 => true | j + 1 => match E[j]? with | none => true | some s => decide (lt s t))
theorem ev_spec_NetOk_loop (n : Int) (E : List T) (hn : 0 ≤ n ∧ n ≤ 8) (hE : E.length ≤ 64) (hw : ∀ t ∈ E, (-9223372036854775808 ≤ t.f0 ∧ t.f0 ≤ 9223372036854775807)) :
    ∀ (d i : Nat), i + d = E.length → Ev (fun k => spec_NetOk.l0 k i n E) ((List.range' i d).all (okAt n E))
  | 0, i, h => by
    refine Ev.succ ?_
    simp only [spec_NetOk.l0]
    refine Ev.neg (by omega) ?_
    exact Ev.some_ (by simp)
  | d + 1, i, h => by
    have hi : i < E.length := by omega
    have hE' : E[i]? = some E[i] := List.getElem?_eq_getElem hi
    refine Ev.succ ?_
    simp only [spec_NetOk.l0, rd_T_nat E i hi]
    refine Ev.pos (by omega) (Ev.pos (by omega) ?_)
    rw [w64 (x := n - 1) (by omega)]
    refine Ev.bind0 (l6In _ _ _) ?_
    simp only [List.range'_succ, List.all_cons]
    by_cases h1 : 0 ≤ E[i].f0 ∧ E[i].f0 ≤ n - 1
    · refine Ev.pos (decide_eq_true h1) ?_
      have h2 := hw E[i] (List.getElem_mem hi)
      rw [w64 (x := E[i].f0 + 1) (by omega)]
      refine Ev.bind0 (l6In _ _ _) ?_
      by_cases h3 : E[i].f0 + 1 ≤ E[i].f1 ∧ E[i].f1 ≤ n - 1
      · refine Ev.pos (decide_eq_true h3) ?_
        have hrec := ev_spec_NetOk_loop n E hn hE hw d (i + 1) (by omega)
        cases i with
        | zero =>
          refine Ev.neg (by omega) ?_
          rw [w64 (by omega)]
          refine Ev.cast hrec ?_
          simp [okAt, hE', h1, h3]
        | succ j =>
          refine Ev.pos (by omega) ?_
          have hj : wrap64 (((j + 1 : Nat) : Int) - 1) = (j : Int) := by rw [w64 (by omega)]; omega
          rw [hj]
          refine Ev.pos (by omega) (Ev.pos (by omega) ?_)
          rw [rd_T_nat E j (by omega)]
          refine Ev.bind0 (l1Less _ _) ?_
          have hEj : E[j]? = some (E[j]'(by omega)) := List.getElem?_eq_getElem (by omega)
          by_cases h4 : lt (E[j]'(by omega)) E[j + 1]
          · refine Ev.pos (decide_eq_true h4) ?_
            rw [w64 (by omega)]
            refine Ev.cast hrec ?_
            simp [okAt, hE', hEj, h1, h3, h4]
          · refine Ev.neg (by simp [h4]) ?_
            exact Ev.some_ (by simp [okAt, hE', hEj, h4])
      · refine Ev.neg (by simp [h3]) ?_
        refine Ev.some_ ?_
        simp only [okAt, hE', decide_eq_false h3, Bool.and_false, Bool.false_and]
    · refine Ev.neg (by simp only [decide_eq_true_eq]; exact h1) ?_
      refine Ev.some_ ?_
      simp only [okAt, hE', decide_eq_false h1, Bool.false_and]
theorem okAt_iff (n : Int) (E : List T) (hn : 0 ≤ n ∧ n ≤ 8) : (List.range' 0 E.length).all (okAt n E) = true ↔ OK n E := by
  rw [List.all_eq_true]
  have hr : ∀ i, i ∈ List.range' 0 E.length ↔ i < E.length := fun i => by simp [List.mem_range']
  constructor
  · intro h
    refine ⟨hn.1, hn.2, fun t ht => ?_, ?_⟩
    · obtain ⟨i, hi, rfl⟩ := List.mem_iff_getElem.1 ht
      have := h i ((hr i).2 hi)
      simp only [okAt, List.getElem?_eq_getElem hi, Bool.and_eq_true, decide_eq_true_eq] at this
      omega
    · refine List.pairwise_iff_getElem.2 ?_
      -- neighbours ascend, so all do
      have nb : ∀ j, (hj : j + 1 < E.length) → lt (E[j]'(by omega)) E[j + 1] := fun j hj => by
        have := h (j + 1) ((hr _).2 hj)
        simp only [okAt, List.getElem?_eq_getElem hj, List.getElem?_eq_getElem (show j < E.length by omega), Bool.and_eq_true, decide_eq_true_eq] at this
        exact this.2
      intro i j hi hj hij
      induction j with
      | zero => omega
      | succ j ih =>
        by_cases e : i = j
        · subst e; exact nb i hj
        · exact lt_trans (ih (by omega) (by omega)) (nb j hj)
  · intro h i hi
    rw [hr] at hi
    have h1 := h.tie E[i] (List.getElem_mem hi)
    simp only [okAt, List.getElem?_eq_getElem hi, Bool.and_eq_true, decide_eq_true_eq]
    refine ⟨⟨by omega, by omega⟩, ?_⟩
    cases i with
    | zero => rfl
    | succ j =>
      simp only [List.getElem?_eq_getElem (show j < E.length by omega), decide_eq_true_eq]
      exact List.pairwise_iff_getElem.1 h.asc j (j + 1) (by omega) hi (by omega)
/-- Numbers that a machine's word holds. -/
def WF (E : List T) : Prop := ∀ t ∈ E, (-9223372036854775808 ≤ t.f0 ∧ t.f0 ≤ 9223372036854775807) ∧ (-9223372036854775808 ≤ t.f1 ∧ t.f1 ≤ 9223372036854775807)
theorem OK.wf {n : Int} {E : List T} (h : OK n E) : WF E := fun t ht => by have := h.tie t ht; have := h.n8; omega
theorem ev_spec_NetOk (n : Int) (E : List T) (hE : E.length ≤ 1048576) (hw : WF E) : Ev (fun k => spec_NetOk.f k n E) (dec (OK n E)) := by
  simp only [spec_NetOk.f]
  refine Ev.bind0 (l6In _ _ _) ?_
  by_cases hn : 0 ≤ n ∧ n ≤ 8
  · refine Ev.pos (decide_eq_true hn) ?_
    refine Ev.succ ?_
    simp only [spec_NetOk.j0]
    by_cases hl : (E.length : Int) > 64
    · refine Ev.pos (decide_eq_true hl) ?_
      exact Ev.ff (fun h => by have := h.length; omega) (Ev.now _)
    · refine Ev.neg (by simp only [decide_eq_true_eq]; exact hl) ?_
      exact Ev.dec (ev_spec_NetOk_loop n E hn (by omega) (fun t ht => (hw t ht).1) E.length 0 (by omega)) (okAt_iff n E hn)
  · refine Ev.neg (by simp only [decide_eq_true_eq]; exact hn) ?_
    refine Ev.succ ?_
    simp only [spec_NetOk.j0]
    refine Ev.pos trivial ?_
    exact Ev.ff (fun h => hn ⟨h.n0, h.n8⟩) (Ev.now _)
theorem compare (a b : Int) : cmp_Compare_int.f a b = some (if a < b then -1 else if a > b then 1 else 0) := by
  unfold cmp_Compare_int.f cmp_isNaN_int.f
  simp only [bne_self_eq_false, Option.bind_some]
  rw [if_neg (by decide), if_neg (by decide)]
  split
  · rfl
  · split <;> rfl
theorem ev_or2 (x y : Int) : Ev (fun k => cmp_Or_int.f k [x, y]) (if x = 0 then y else x) := by
  simp only [cmp_Or_int.f]
  refine Ev.succ ?_
  simp only [cmp_Or_int.l0, List.length_cons, List.length_nil]
  refine Ev.pos (by decide) (Ev.pos (by decide) (Ev.pos (by simp) ?_))
  have r0 : rd [x, y] 0 = x := rfl
  rw [r0]
  by_cases h : x = 0
  · refine Ev.pos h ?_
    rw [if_pos h]
    refine Ev.succ ?_
    simp only [cmp_Or_int.l0]
    rw [show wrap64 (0 + 1) = 1 from by unfold wrap64; omega]
    refine Ev.pos (by decide) (Ev.pos (by decide) (Ev.pos (by simp) ?_))
    have r1 : rd [x, y] 1 = y := rfl
    rw [r1]
    by_cases k : y = 0
    · refine Ev.pos k ?_
      refine Ev.succ ?_
      simp only [cmp_Or_int.l0]
      rw [show wrap64 (1 + 1) = 2 from by unfold wrap64; omega]
      refine Ev.neg (by decide) ?_
      exact Ev.some_ k.symm
    · exact Ev.neg k (Ev.now _)
  · refine Ev.neg h ?_
    rw [if_neg h]
    exact Ev.now _
theorem ev_tieOrder (s t : T) : ∃ c : Int, Ev (fun k => impl_tieOrder.f k s.f0 s.f1 t.f0 t.f1) c ∧ (c < 0 ↔ lt s t) := by
  refine ⟨if (if s.f0 < t.f0 then (-1 : Int) else if s.f0 > t.f0 then 1 else 0) = 0 then (if s.f1 < t.f1 then -1 else if s.f1 > t.f1 then 1 else 0) else (if s.f0 < t.f0 then -1 else if s.f0 > t.f0 then 1 else 0), ?_, ?_⟩
  · simp only [impl_tieOrder.f]
    refine Ev.bind0 (compare _ _) (Ev.bind0 (compare _ _) (Ev.bind (ev_or2 _ _) ?_))
    exact Ev.now _
  · unfold lt
    by_cases h1 : s.f0 < t.f0
    · simp only [if_pos h1]
      rw [if_neg (by omega)]
      omega
    · by_cases h2 : s.f0 > t.f0
      · simp only [if_neg h1, if_pos h2]
        rw [if_neg (by omega)]
        omega
      · simp only [if_neg h1, if_neg h2]
        rw [if_pos trivial]
        split
        · omega
        · split <;> omega
theorem ev_ascending_loop (E : List T) (hE : E.length ≤ 1048576) : ∀ (d i : Nat), 0 < i → i + d = E.length → Ev (fun k => impl_ascending.l0 k E i) (AscN (E.drop (i - 1)))
  | 0, i, h0, h => by
    refine Ev.succ ?_
    simp only [impl_ascending.l0]
    refine Ev.neg (by omega) ?_
    refine Ev.some_ ?_
    have : E.drop (i - 1) = [E[i - 1]'(by omega)] := by
      rw [List.drop_eq_getElem_cons (by omega), List.drop_of_length_le (by omega)]
    rw [this]; rfl
  | d + 1, i, h0, h => by
    obtain ⟨j, rfl⟩ : ∃ j, i = j + 1 := ⟨i - 1, by omega⟩
    have hj : j < E.length := by omega
    have hj1 : j + 1 < E.length := by omega
    refine Ev.succ ?_
    simp only [impl_ascending.l0]
    have hw : wrap64 (((j + 1 : Nat) : Int) - 1) = (j : Int) := by rw [w64 (by omega)]; omega
    rw [hw]
    refine Ev.pos (by omega) (Ev.pos (by omega) (Ev.pos (by omega) (Ev.pos (by omega) ?_)))
    rw [rd_T_nat E j hj, rd_T_nat E (j + 1) hj1]
    obtain ⟨c, hc, hlt⟩ := ev_tieOrder E[j] E[j + 1]
    refine Ev.bind hc ?_
    have hd : E.drop (j + 1 - 1) = E[j] :: E[j + 1] :: E.drop (j + 2) := by
      rw [Nat.add_sub_cancel, List.drop_eq_getElem_cons hj, List.drop_eq_getElem_cons hj1]
    rw [hd]
    simp only [AscN]
    by_cases h4 : c ≥ 0
    · refine Ev.pos h4 (Ev.some_ ?_)
      rw [decide_eq_false (fun k => by have := hlt.2 k; omega)]
      rfl
    · refine Ev.neg h4 ?_
      rw [w64 (by omega)]
      refine Ev.cast (ev_ascending_loop E hE d (j + 2) (by omega) (by omega)) ?_
      rw [decide_eq_true (hlt.1 (by omega)), show j + 2 - 1 = j + 1 from rfl, List.drop_eq_getElem_cons hj1]
      simp
theorem ev_ascending (E : List T) (hE : E.length ≤ 1048576) : Ev (fun k => impl_ascending.f k E) (dec (Asc E)) := by
  simp only [impl_ascending.f]
  rw [← dec_of (ascN_iff E)]
  by_cases h : E.length = 0
  · refine Ev.succ ?_
    simp only [impl_ascending.l0]
    refine Ev.neg (by omega) ?_
    have : E = [] := List.length_eq_zero_iff.1 h
    subst this
    exact Ev.now _
  · have := ev_ascending_loop E hE (E.length - 1) 1 (by omega) (by omega)
    simpa using this
theorem ev_impl_NetOk_loop (n : Int) (E : List T) (hE : E.length ≤ 1048576) : ∀ (d i : Nat), i + d = E.length →
    Ev (fun k => impl_NetOk.l0 k E E.length i n E) (dec ((∀ t ∈ E.drop i, 0 ≤ t.f0 ∧ t.f0 < t.f1 ∧ t.f1 < n) ∧ Asc E))
  | 0, i, h => by
    refine Ev.succ ?_
    simp only [impl_NetOk.l0]
    refine Ev.neg (by omega) ?_
    refine Ev.bind (ev_ascending E hE) ?_
    refine Ev.some_ (dec_congr ?_)
    rw [List.drop_of_length_le (by omega)]
    simp
  | d + 1, i, h => by
    have hi : i < E.length := by omega
    refine Ev.succ ?_
    simp only [impl_NetOk.l0, rd_T_nat E i hi]
    refine Ev.pos (by omega) (Ev.pos (by omega) (Ev.pos (by omega) ?_))
    rw [List.drop_eq_getElem_cons hi]
    by_cases h1 : E[i].f0 < 0
    · exact Ev.pos h1 (Ev.ff (fun a => by have := a.1 E[i] List.mem_cons_self; omega) (Ev.now _))
    · refine Ev.neg h1 ?_
      by_cases h2 : E[i].f0 ≥ E[i].f1
      · exact Ev.pos h2 (Ev.ff (fun a => by have := a.1 E[i] List.mem_cons_self; omega) (Ev.now _))
      · refine Ev.neg h2 ?_
        by_cases h3 : E[i].f1 ≥ n
        · exact Ev.pos h3 (Ev.ff (fun a => by have := a.1 E[i] List.mem_cons_self; omega) (Ev.now _))
        · refine Ev.neg h3 ?_
          rw [w64 (by omega)]
          refine Ev.cast (ev_impl_NetOk_loop n E hE d (i + 1) (by omega)) (dec_congr ?_)
          simp only [List.forall_mem_cons]
          exact ⟨fun a => ⟨⟨by omega, a.1⟩, a.2⟩, fun a => ⟨a.1.2, a.2⟩⟩
theorem ev_impl_NetOk (n : Int) (E : List T) (hE : E.length ≤ 1048576) : Ev (fun k => impl_NetOk.f k n E) (dec (OK n E)) := by
  simp only [impl_NetOk.f]
  by_cases h0 : n < 0
  · refine Ev.pos h0 (Ev.succ ?_)
    simp only [impl_NetOk.j0]
    exact Ev.pos trivial (Ev.ff (fun h => by have := h.n0; omega) (Ev.now _))
  · refine Ev.neg h0 (Ev.succ ?_)
    simp only [impl_NetOk.j0]
    by_cases h8 : n > 8
    · exact Ev.pos (decide_eq_true h8) (Ev.ff (fun h => by have := h.n8; omega) (Ev.now _))
    · refine Ev.neg (by simp only [decide_eq_true_eq]; exact h8) ?_
      refine Ev.cast (ev_impl_NetOk_loop n E hE E.length 0 (by omega)) (dec_congr ?_)
      rw [List.drop_zero]
      exact ⟨fun h => ⟨by omega, by omega, h.1, h.2⟩, fun h => ⟨h.tie, h.asc⟩⟩
def tie (a b : Int) : T := if a < b then ⟨a, b⟩ else ⟨b, a⟩
theorem tie_comm (a b : Int) : tie a b = tie b a := by
  unfold tie
  by_cases h : a < b
  · rw [if_pos h, if_neg (by omega)]
  · by_cases k : b < a
    · rw [if_neg h, if_pos k]
    · have : a = b := by omega
      subst this; rfl
theorem l1Tie (a b : Int) : spec_l1Tie.f a b = some ((tie a b).f0, (tie a b).f1) := by
  unfold spec_l1Tie.f tie
  split <;> rfl
def Has (E : List T) (a b : Int) : Prop := tie a b ∈ E
theorem Has.symm {E : List T} {a b : Int} (h : Has E a b) : Has E b a := by unfold Has at *; rw [tie_comm]; exact h
theorem ev_l1Has_loop (n : Int) (E : List T) (a b : Int) (hE : E.length ≤ 1048576) : ∀ (d i : Nat), i + d = E.length → Ev (fun k => spec_l1Has.l0 k a b i n E) (dec (tie a b ∈ E.drop i))
  | 0, i, h => by
    refine Ev.succ ?_
    simp only [spec_l1Has.l0]
    refine Ev.neg (by omega) (Ev.ff ?_ (Ev.now _))
    rw [List.drop_of_length_le (by omega)]; simp
  | d + 1, i, h => by
    have hi : i < E.length := by omega
    refine Ev.succ ?_
    simp only [spec_l1Has.l0, rd_T_nat E i hi]
    refine Ev.pos (by omega) (Ev.pos (by omega) (Ev.bind0 (l1Tie a b) ?_))
    rw [List.drop_eq_getElem_cons hi]
    by_cases e : E[i] = tie a b
    · exact Ev.pos (by rw [e]; simp) (Ev.tt (by rw [e]; exact List.mem_cons_self) (Ev.now _))
    · refine Ev.neg (fun k => e ?_) ?_
      · simp only [Bool.and_eq_true, beq_iff_eq] at k
        exact T.ext k.1 k.2
      · rw [w64 (by omega)]
        refine Ev.cast (ev_l1Has_loop n E a b hE d (i + 1) (by omega)) (dec_congr ?_)
        rw [List.mem_cons]
        exact ⟨Or.inr, fun k => k.resolve_left (fun x => e x.symm)⟩
theorem ev_l1Has (n : Int) (E : List T) (a b : Int) (hE : E.length ≤ 1048576) : Ev (fun k => spec_l1Has.f k n E a b) (dec (Has E a b)) := by
  simp only [spec_l1Has.f]
  exact ev_l1Has_loop n E a b hE E.length 0 (by omega)
/-- A knot of a net. -/
def In (n k : Int) : Prop := 0 ≤ k ∧ k < n
instance (n k : Int) : Decidable (In n k) := inferInstanceAs (Decidable (_ ∧ _))
theorem knot_eq (n : Int) (E : List T) (a : Int) : impl_Net_knot.f n E a = some (dec (In n a)) := by
  unfold impl_Net_knot.f
  by_cases h : a ≥ 0
  · rw [if_pos h]; congr 1; exact dec_of (by unfold In; rw [decide_eq_true_iff]; omega)
  · rw [if_neg h]; congr 1; exact (dec_f (by unfold In; omega)).symm
theorem ev_l1Knot (n : Int) (E : List T) (a : Int) (hE : E.length ≤ 1048576) (hw : WF E) : Ev (fun k => spec_l1Knot.f k n E a) (dec (OK n E ∧ In n a)) := by
  simp only [spec_l1Knot.f]
  refine Ev.bind (ev_spec_NetOk n E hE hw) ?_
  by_cases h : OK n E
  · have := h.n0
    have := h.n8
    refine Ev.pos (dec_t h) ?_
    rw [w64 (by omega)]
    refine Ev.bind0 (l6In _ _ _) (Ev.some_ (dec_of ?_))
    rw [decide_eq_true_iff]
    unfold In
    exact ⟨fun k => ⟨h, by omega⟩, fun k => by omega⟩
  · exact Ev.neg (by rw [dec_f h]; simp) (Ev.ff (fun k => h k.1) (Ev.now _))
theorem ev_spec_NetHas (n : Int) (E : List T) (a b : Int) (hE : E.length ≤ 1048576) (hw : WF E) : Ev (fun k => spec_NetHas.f k n E a b) (dec (OK n E ∧ Has E a b)) := by
  simp only [spec_NetHas.f]
  refine Ev.bind (ev_spec_NetOk n E hE hw) ?_
  by_cases h : OK n E
  · exact Ev.pos (dec_t h) (Ev.bind (ev_l1Has n E a b hE) (Ev.some_ (dec_congr ⟨fun k => ⟨h, k⟩, fun k => k.2⟩)))
  · exact Ev.neg (by rw [dec_f h]; simp) (Ev.ff (fun k => h k.1) (Ev.now _))
end Go.Proofs.Ytdlnnjgjfngccaa.Th
namespace Go.Proofs.Ytdlnnjgjfngccaa.Th
open Go.RowKit Go.Proofs.YtdlnnjgjfngccaaW.PrintWords Go.Proofs.YtdlnnjgjfngccaaW.PrintLast Go.Proofs.YtdlnnjgjfngccaaW.PrintMore Go.Proofs.Ytdlnnjgjfngccaa.F
theorem all_loop {L : Nat → Nat → Option Bool} (len : Nat) (p : Nat → Prop) (hend : Ev (fun k => L k len) true) (hyes : ∀ i, i < len → p i → ∀ b, Ev (fun k => L k (i + 1)) b → Ev (fun k => L k i) b)
    (hno : ∀ i, i < len → ¬ p i → Ev (fun k => L k i) false) : ∀ d i, i + d = len → Ev (fun k => L k i) (dec (∀ j, i ≤ j → j < len → p j))
  | 0, i, h => by
    obtain rfl : i = len := by omega
    exact Ev.tt (fun j h1 h2 => by omega) hend
  | d + 1, i, h => by
    by_cases hp : p i
    · refine Ev.cast (hyes i (by omega) hp _ (all_loop len p hend hyes hno d (i + 1) (by omega))) (dec_congr ?_)
      constructor
      · intro a j h1 h2
        by_cases e : j = i
        · subst e; exact hp
        · exact a j (by omega) h2
      · intro a j h1 h2; exact a j (by omega) h2
    · exact Ev.ff (fun a => hp (a i (Nat.le_refl _) (by omega))) (hno i (by omega) hp)
theorem any_loop {L : Nat → Nat → Option Bool} (len : Nat) (p : Nat → Prop) (hend : Ev (fun k => L k len) false) (hno : ∀ i, i < len → ¬ p i → ∀ b, Ev (fun k => L k (i + 1)) b → Ev (fun k => L k i) b)
    (hyes : ∀ i, i < len → p i → Ev (fun k => L k i) true) : ∀ d i, i + d = len → Ev (fun k => L k i) (dec (∃ j, i ≤ j ∧ j < len ∧ p j))
  | 0, i, h => by
    obtain rfl : i = len := by omega
    exact Ev.ff (fun ⟨j, h1, h2, _⟩ => by omega) hend
  | d + 1, i, h => by
    by_cases hp : p i
    · exact Ev.tt ⟨i, Nat.le_refl _, by omega, hp⟩ (hyes i (by omega) hp)
    · refine Ev.cast (hno i (by omega) hp _ (any_loop len p hend hno hyes d (i + 1) (by omega))) (dec_congr ?_)
      constructor
      · rintro ⟨j, h1, h2, h3⟩; exact ⟨j, by omega, h2, h3⟩
      · rintro ⟨j, h1, h2, h3⟩
        by_cases e : j = i
        · subst e; exact absurd h3 hp
        · exact ⟨j, by omega, h2, h3⟩
theorem rd_getElem (l : List Int) (i : Nat) (h : i < l.length) : rd l (i : Int) = l[i] := by
  rw [rd_nat, List.getD_eq_getElem?_getD, List.getElem?_eq_getElem h, Option.getD_some]
theorem mem_iff_rd (l : List Int) (x : Int) : x ∈ l ↔ ∃ j, 0 ≤ j ∧ j < l.length ∧ rd l (j : Int) = x := by
  rw [List.mem_iff_getElem]
  constructor
  · rintro ⟨j, h, e⟩; exact ⟨j, Nat.zero_le _, h, by rw [rd_getElem l j h]; exact e⟩
  · rintro ⟨j, _, h, e⟩; exact ⟨j, h, by rw [← rd_getElem l j h]; exact e⟩
/-- The second is come to from the first. -/
inductive Conn (E : List T) : Int → Int → Prop
  | refl (a : Int) : Conn E a a
  | step {a b c : Int} : Conn E a b → Has E b c → Conn E a c
theorem Conn.one {E : List T} {a b : Int} (h : Has E a b) : Conn E a b := .step (.refl a) h
theorem Conn.trans {E : List T} {a b c : Int} (h : Conn E a b) (k : Conn E b c) : Conn E a c := by
  induction k with
  | refl => exact h
  | step _ m ih => exact .step ih m
theorem Conn.symm {E : List T} {a b : Int} (h : Conn E a b) : Conn E b a := by
  induction h with
  | refl => exact .refl _
  | step _ m ih => exact (Conn.one m.symm).trans ih
theorem Conn.comm {E : List T} {a b : Int} : Conn E a b ↔ Conn E b a := ⟨Conn.symm, Conn.symm⟩
theorem Conn.mono {E F : List T} (h : ∀ t, t ∈ E → t ∈ F) {a b : Int} (k : Conn E a b) : Conn F a b := by
  induction k with
  | refl => exact .refl _
  | step _ m ih => exact .step ih (h _ m)
theorem Conn.congr {E F : List T} (h : ∀ t, t ∈ E ↔ t ∈ F) {a b : Int} : Conn E a b ↔ Conn F a b := ⟨Conn.mono fun t => (h t).1, Conn.mono fun t => (h t).2⟩
theorem Conn.first {E : List T} {a b : Int} (h : Conn E a b) : a = b ∨ ∃ c, Has E a c ∧ Conn E c b := by
  induction h with
  | refl => exact Or.inl rfl
  | step m hb ih =>
    rcases ih with rfl | ⟨c, h1, h2⟩
    · exact Or.inr ⟨_, hb, .refl _⟩
    · exact Or.inr ⟨c, h1, .step h2 hb⟩
theorem tie_self {n : Int} {E : List T} (h : OK n E) {t : T} (ht : t ∈ E) : tie t.f0 t.f1 = t := by
  have := h.tie t ht
  unfold tie
  rw [if_pos (by omega)]
theorem has_of_mem {n : Int} {E : List T} (h : OK n E) {t : T} (ht : t ∈ E) : Has E t.f0 t.f1 := by
  unfold Has; rw [tie_self h ht]; exact ht
/-- The two knots of a tie. -/
theorem tie_ends {a b : Int} {t : T} (e : tie a b = t) : (a = t.f0 ∧ b = t.f1) ∨ (a = t.f1 ∧ b = t.f0) := by
  unfold tie at e
  split at e <;> subst e
  · exact Or.inl ⟨rfl, rfl⟩
  · exact Or.inr ⟨rfl, rfl⟩
theorem tie_inj {a b c d : Int} (h : tie a b = tie c d) : (a = c ∧ b = d) ∨ (a = d ∧ b = c) := by
  unfold tie at h
  split at h <;> split at h <;> simp only [S73.mk.injEq] at h <;> omega
theorem OK.filter {n : Int} {E : List T} (h : OK n E) (p : T → Bool) : OK n (E.filter p) :=
  ⟨h.n0, h.n8, fun t ht => h.tie t (List.mem_filter.1 ht).1, h.asc.filter p⟩
theorem OK.nil {n : Int} (h0 : 0 ≤ n) (h8 : n ≤ 8) : OK n [] := ⟨h0, h8, by simp, List.Pairwise.nil⟩
/-- A net without some ties. -/
noncomputable def less (E : List T) (p : T → Prop) : List T := E.filter (fun t => !dec (p t))
theorem mem_less {E : List T} {p : T → Prop} {t : T} : t ∈ less E p ↔ t ∈ E ∧ ¬ p t := by
  unfold less
  rw [List.mem_filter]
  by_cases h : p t
  · rw [dec_t h]; simp [h]
  · rw [dec_f h]; simp [h]
theorem OK.less {n : Int} {E : List T} (h : OK n E) (p : T → Prop) : OK n (less E p) := h.filter _
/-- Without the ties of a knot. -/
abbrev AtK (k : Int) (t : T) : Prop := t.f0 = k ∨ t.f1 = k
/-- The ties that a knot does not have. -/
noncomputable abbrev lessK (E : List T) (k : Int) : List T := less E (AtK k)
theorem ev_index_loop (E : List T) (s : T) (hE : E.length ≤ 1048576) : ∀ (d i : Nat), i + d = E.length → ∃ c : Int, Ev (fun k => slices_Index_impl_Tie_impl_Tie.l0 k E E.length i s.f0 s.f1) c ∧ (c ≥ 0 ↔ s ∈ E.drop i)
  | 0, i, h => by
    refine ⟨-1, Ev.succ ?_, ?_⟩
    · simp only [slices_Index_impl_Tie_impl_Tie.l0]
      exact Ev.neg (by omega) (Ev.now _)
    · rw [List.drop_of_length_le (by omega)]; simp
  | d + 1, i, h => by
    have hi : i < E.length := by omega
    by_cases e : s = E[i]
    · refine ⟨i, Ev.succ ?_, ?_⟩
      · simp only [slices_Index_impl_Tie_impl_Tie.l0, rd_T_nat E i hi]
        refine Ev.pos (by omega) (Ev.pos (by omega) (Ev.pos (by omega) (Ev.pos (by rw [e]; simp) (Ev.now _))))
      · rw [List.drop_eq_getElem_cons hi]
        exact ⟨fun _ => by rw [e]; exact List.mem_cons_self, fun _ => by omega⟩
    · obtain ⟨c, hc, hm⟩ := ev_index_loop E s hE d (i + 1) (by omega)
      refine ⟨c, Ev.succ ?_, ?_⟩
      · simp only [slices_Index_impl_Tie_impl_Tie.l0, rd_T_nat E i hi]
        refine Ev.pos (by omega) (Ev.pos (by omega) (Ev.pos (by omega) (Ev.neg (fun k => e ?_) ?_)))
        · simp only [Bool.and_eq_true, beq_iff_eq] at k
          exact T.ext k.1 k.2
        · rw [w64 (by omega)]
          exact hc
      · rw [List.drop_eq_getElem_cons hi, List.mem_cons, hm]
        exact ⟨Or.inr, fun k => k.resolve_left e⟩
theorem ev_contains (E : List T) (s : T) (hE : E.length ≤ 1048576) : Ev (fun k => slices_Contains_impl_Tie_impl_Tie.f k E s.f0 s.f1) (dec (s ∈ E)) := by
  obtain ⟨c, hc, hm⟩ := ev_index_loop E s hE E.length 0 (by omega)
  simp only [slices_Contains_impl_Tie_impl_Tie.f, slices_Index_impl_Tie_impl_Tie.f]
  refine Ev.bind hc (Ev.some_ (dec_of ?_))
  rw [decide_eq_true_iff, hm, List.drop_zero]
theorem impl_tie_eq (a b : Int) : impl_tie.f a b = some ((tie a b).f0, (tie a b).f1) := by
  unfold impl_tie.f tie mn mx
  by_cases h : a < b
  · rw [if_pos h, if_pos h, if_neg (by omega)]
  · rw [if_neg h, if_neg h]
    by_cases k : b < a
    · rw [if_pos k]
    · rw [if_neg k]
      have e : a = b := by omega
      subst e; rfl
theorem ev_has (n : Int) (E : List T) (a b : Int) (hE : E.length ≤ 1048576) : Ev (fun k => impl_Net_has.f k n E a b) (dec (Has E a b)) := by
  simp only [impl_Net_has.f]
  exact Ev.bind0 (impl_tie_eq a b) (Ev.bind (ev_contains E (tie a b) hE) (Ev.now _))
end Go.Proofs.Ytdlnnjgjfngccaa.Th
namespace Go.Proofs.Ytdlnnjgjfngccaa.Th
open Go.RowKit Go.Proofs.YtdlnnjgjfngccaaW.PrintWords Go.Proofs.YtdlnnjgjfngccaaW.PrintMore Go.Proofs.Ytdlnnjgjfngccaa.F
theorem ev_l2Has (l : List Int) (x : Int) (hl : l.length ≤ 1048576) : Ev (fun k => spec_l2Has.f k l x) (dec (x ∈ l)) := by
  simp only [spec_l2Has.f]
  have := any_loop (L := fun k i => spec_l2Has.l0 k l x i) l.length (fun j => rd l (j : Int) = x) ?_ ?_ ?_ l.length 0 (by omega)
  · exact Ev.cast this (dec_congr (mem_iff_rd l x).symm)
  · refine Ev.succ ?_
    simp only [spec_l2Has.l0]
    exact Ev.neg (by omega) (Ev.now _)
  · intro i hi hp b hb
    refine Ev.succ ?_
    simp only [spec_l2Has.l0]
    refine Ev.pos (by omega) (Ev.pos (by omega) (Ev.neg hp ?_))
    rw [w64 (by omega)]
    exact hb
  · intro i hi hp
    refine Ev.succ ?_
    simp only [spec_l2Has.l0]
    exact Ev.pos (by omega) (Ev.pos (by omega) (Ev.pos hp (Ev.now _)))
theorem ev_indexInt_loop (l : List Int) (x : Int) (hl : l.length ≤ 1048576) : ∀ (d i : Nat), i + d = l.length → ∃ c : Int, Ev (fun k => slices_Index_int_int.l0 k l x l.length i) c ∧ (c ≥ 0 ↔ x ∈ l.drop i)
  | 0, i, h => by
    refine ⟨-1, Ev.succ ?_, ?_⟩
    · simp only [slices_Index_int_int.l0]
      exact Ev.neg (by omega) (Ev.now _)
    · rw [List.drop_of_length_le (by omega)]; simp
  | d + 1, i, h => by
    have hi : i < l.length := by omega
    by_cases e : x = l[i]
    · refine ⟨i, Ev.succ ?_, ?_⟩
      · simp only [slices_Index_int_int.l0, rd_getElem l i hi]
        exact Ev.pos (by omega) (Ev.pos (by omega) (Ev.pos (by omega) (Ev.pos e (Ev.now _))))
      · rw [List.drop_eq_getElem_cons hi]
        exact ⟨fun _ => by rw [e]; exact List.mem_cons_self, fun _ => by omega⟩
    · obtain ⟨c, hc, hm⟩ := ev_indexInt_loop l x hl d (i + 1) (by omega)
      refine ⟨c, Ev.succ ?_, ?_⟩
      · simp only [slices_Index_int_int.l0, rd_getElem l i hi]
        refine Ev.pos (by omega) (Ev.pos (by omega) (Ev.pos (by omega) (Ev.neg e ?_)))
        rw [w64 (by omega)]
        exact hc
      · rw [List.drop_eq_getElem_cons hi, List.mem_cons, hm]
        exact ⟨Or.inr, fun k => k.resolve_left e⟩
theorem ev_containsInt (l : List Int) (x : Int) (hl : l.length ≤ 1048576) : Ev (fun k => slices_Contains_int_int.f k l x) (dec (x ∈ l)) := by
  obtain ⟨c, hc, hm⟩ := ev_indexInt_loop l x hl l.length 0 (by omega)
  simp only [slices_Contains_int_int.f, slices_Index_int_int.f]
  refine Ev.bind hc (Ev.some_ (dec_of ?_))
  rw [decide_eq_true_iff, hm, List.drop_zero]
def Walk (R : Int → Int → Prop) : List Int → Prop
  | [] => True
  | [_] => True
  | a :: b :: l => R a b ∧ Walk R (b :: l)
theorem walk_iff (R : Int → Int → Prop) : ∀ w : List Int, Walk R w ↔ ∀ j : Nat, j + 1 < w.length → R (rd w (j : Int)) (rd w ((j + 1 : Nat) : Int))
  | [] => by simp [Walk]
  | [_] => by simp [Walk]
  | a :: b :: l => by
    rw [Walk, walk_iff R (b :: l)]
    constructor
    · rintro ⟨h, k⟩ j hj
      cases j with
      | zero => simpa [rd] using h
      | succ j =>
        have := k j (by simp at hj ⊢; omega)
        rw [rd_nat, rd_nat] at this ⊢
        simpa using this
    · intro h
      refine ⟨by simpa [rd] using h 0 (by simp), fun j hj => ?_⟩
      have := h (j + 1) (by simp at hj ⊢; omega)
      rw [rd_nat, rd_nat] at this ⊢
      simpa using this
theorem nodup_iff (w : List Int) : w.Nodup ↔ ∀ j : Nat, j < w.length → rd w (j : Int) ∉ w.take j := by
  unfold List.Nodup
  rw [List.pairwise_iff_getElem]
  constructor
  · intro h j hj hm
    rw [rd_getElem w j hj] at hm
    obtain ⟨i, hi, e⟩ := List.mem_iff_getElem.1 hm
    have hi' : i < j := by simp at hi; omega
    exact h i j (by omega) hj hi' (by simpa using e)
  · intro h i j hi hj hij e
    refine h j hj ?_
    rw [rd_getElem w j hj, ← e]
    exact List.mem_iff_getElem.2 ⟨i, by simp; omega, by simp⟩
/-- A way of a net. -/
structure IsWay (n : Int) (E : List T) (w : List Int) : Prop where
  ne : w ≠ []
  inn : ∀ v ∈ w, In n v
  nd : w.Nodup
  walk : Walk (Has E) w
/-- What is asked at an index. -/
def WayAt (n : Int) (E : List T) (w : List Int) (j : Nat) : Prop := In n (rd w (j : Int)) ∧ rd w (j : Int) ∉ w.take j ∧ (0 < j → Has E (rd w ((j - 1 : Nat) : Int)) (rd w (j : Int)))
theorem isWay_iff (n : Int) (E : List T) (w : List Int) : IsWay n E w ↔ w ≠ [] ∧ ∀ j, 0 ≤ j → j < w.length → WayAt n E w j := by
  constructor
  · intro h
    refine ⟨h.ne, fun j _ hj => ⟨h.inn _ (by rw [rd_getElem w j hj]; exact List.getElem_mem hj), (nodup_iff w).1 h.nd j hj, fun h0 => ?_⟩⟩
    have := (walk_iff _ w).1 h.walk (j - 1) (by omega)
    rwa [show j - 1 + 1 = j by omega] at this
  · rintro ⟨h0, h⟩
    refine ⟨h0, fun v hv => ?_, (nodup_iff w).2 fun j hj => (h j (Nat.zero_le _) hj).2.1, (walk_iff _ w).2 fun j hj => ?_⟩
    · obtain ⟨j, _, hj, rfl⟩ := (mem_iff_rd w v).1 hv
      exact (h j (Nat.zero_le _) hj).1
    · exact (h (j + 1) (Nat.zero_le _) hj).2.2 (by omega)
theorem ev_spec_WayOk (n : Int) (E : List T) (w : List Int) (hE : E.length ≤ 1048576) (hw : WF E) (hl : w.length ≤ 1048576) : Ev (fun k => spec_WayOk.f k n E w) (dec (OK n E ∧ IsWay n E w)) := by
  simp only [spec_WayOk.f]
  refine Ev.bind (ev_spec_NetOk n E hE hw) ?_
  by_cases ok : OK n E
  · refine Ev.pos (dec_t ok) (Ev.succ ?_)
    simp only [spec_WayOk.j0]
    by_cases h0 : (w.length : Int) < 1
    · refine Ev.pos (decide_eq_true h0) (Ev.ff (fun h => h.2.ne (List.length_eq_zero_iff.1 (by omega))) (Ev.now _))
    · refine Ev.neg (by simp only [decide_eq_true_eq]; exact h0) ?_
      have := all_loop (L := fun k i => spec_WayOk.l0 k w i n E) w.length (WayAt n E w) ?_ ?_ ?_ w.length 0 (by omega)
      · refine Ev.cast this (dec_congr ?_)
        rw [isWay_iff]
        exact ⟨fun h => ⟨ok, fun e => by subst e; simp at h0, h⟩, fun h => h.2.2⟩
      · refine Ev.succ ?_
        simp only [spec_WayOk.l0]
        exact Ev.neg (by omega) (Ev.now _)
      · intro i hi hp b hb
        refine Ev.succ ?_
        simp only [spec_WayOk.l0]
        refine Ev.pos (by omega) (Ev.pos (by omega) (Ev.bind (ev_l1Knot n E _ hE hw) (Ev.pos (dec_t ⟨ok, hp.1⟩) (Ev.pos (by omega) ?_))))
        rw [Int.toNat_natCast]
        refine Ev.bind (ev_l2Has _ _ (by simp; omega)) (Ev.neg (by rw [dec_f hp.2.1]; simp) ?_)
        cases i with
        | zero => exact Ev.neg (by omega) (by rw [w64 (by omega)]; exact hb)
        | succ j =>
          refine Ev.pos (by omega) ?_
          have hj : wrap64 (((j + 1 : Nat) : Int) - 1) = (j : Int) := by rw [w64 (by omega)]; omega
          rw [hj]
          refine Ev.pos (by omega) (Ev.pos (by omega) (Ev.bind (ev_spec_NetHas n E _ _ hE hw) (Ev.pos (dec_t ⟨ok, hp.2.2 (by omega)⟩) ?_)))
          rw [w64 (by omega)]; exact hb
      · intro i hi hp
        refine Ev.succ ?_
        simp only [spec_WayOk.l0]
        refine Ev.pos (by omega) (Ev.pos (by omega) (Ev.bind (ev_l1Knot n E _ hE hw) ?_))
        by_cases h1 : In n (rd w (i : Int))
        · refine Ev.pos (dec_t ⟨ok, h1⟩) (Ev.pos (by omega) ?_)
          rw [Int.toNat_natCast]
          refine Ev.bind (ev_l2Has _ _ (by simp; omega)) ?_
          by_cases h2 : rd w (i : Int) ∈ w.take i
          · exact Ev.pos (dec_t h2) (Ev.now _)
          · refine Ev.neg (by rw [dec_f h2]; simp) ?_
            cases i with
            | zero => exact absurd ⟨h1, h2, fun h => absurd h (by omega)⟩ hp
            | succ j =>
              refine Ev.pos (by omega) ?_
              have hj : wrap64 (((j + 1 : Nat) : Int) - 1) = (j : Int) := by rw [w64 (by omega)]; omega
              rw [hj]
              refine Ev.pos (by omega) (Ev.pos (by omega) (Ev.bind (ev_spec_NetHas n E _ _ hE hw) (Ev.neg ?_ (Ev.now _))))
              rw [dec_f (fun h => hp ⟨h1, h2, fun _ => h.2⟩)]; simp
        · exact Ev.neg (by rw [dec_f (fun h => h1 h.2)]; simp) (Ev.now _)
  · refine Ev.neg (by rw [dec_f ok]; simp) (Ev.succ ?_)
    simp only [spec_WayOk.j0]
    exact Ev.pos trivial (Ev.ff (fun h => ok h.1) (Ev.now _))
theorem ev_walk (n : Int) (E : List T) (w : List Int) (hE : E.length ≤ 1048576) (hl : w.length ≤ 1048576) : Ev (fun k => impl_Net_walk.f k n E w) (dec ((∀ v ∈ w, In n v) ∧ Walk (Has E) w)) := by
  simp only [impl_Net_walk.f]
  have := all_loop (L := fun k i => impl_Net_walk.l0 k w w w.length i n E) w.length (fun j => In n (rd w (j : Int)) ∧ (0 < j → Has E (rd w ((j - 1 : Nat) : Int)) (rd w (j : Int)))) ?_ ?_ ?_ w.length 0 (by omega)
  · refine Ev.cast this (dec_congr ?_)
    constructor
    · intro h
      refine ⟨fun v hv => ?_, (walk_iff _ w).2 fun j hj => (h (j + 1) (Nat.zero_le _) hj).2 (by omega)⟩
      obtain ⟨j, _, hj, rfl⟩ := (mem_iff_rd w v).1 hv
      exact (h j (Nat.zero_le _) hj).1
    · intro h j _ hj
      refine ⟨h.1 _ (by rw [rd_getElem w j hj]; exact List.getElem_mem hj), fun h0 => ?_⟩
      have := (walk_iff _ w).1 h.2 (j - 1) (by omega)
      rwa [show j - 1 + 1 = j by omega] at this
  · refine Ev.succ ?_
    simp only [impl_Net_walk.l0]
    exact Ev.neg (by omega) (Ev.now _)
  · intro i hi hp b hb
    refine Ev.succ ?_
    simp only [impl_Net_walk.l0]
    refine Ev.pos (by omega) (Ev.pos (by omega) (Ev.pos (by omega) (Ev.bind0 (knot_eq n E _) (Ev.pos (dec_t hp.1) ?_))))
    cases i with
    | zero => exact Ev.neg (by omega) (by rw [w64 (by omega)]; exact hb)
    | succ j =>
      refine Ev.pos (by omega) ?_
      have hj : wrap64 (((j + 1 : Nat) : Int) - 1) = (j : Int) := by rw [w64 (by omega)]; omega
      rw [hj]
      refine Ev.pos (by omega) (Ev.pos (by omega) (Ev.bind (ev_has n E _ _ hE) (Ev.pos (dec_t (hp.2 (by omega))) ?_)))
      rw [w64 (by omega)]; exact hb
  · intro i hi hp
    refine Ev.succ ?_
    simp only [impl_Net_walk.l0]
    refine Ev.pos (by omega) (Ev.pos (by omega) (Ev.pos (by omega) (Ev.bind0 (knot_eq n E _) ?_)))
    by_cases h1 : In n (rd w (i : Int))
    · refine Ev.pos (dec_t h1) ?_
      cases i with
      | zero => exact absurd ⟨h1, fun h => absurd h (by omega)⟩ hp
      | succ j =>
        refine Ev.pos (by omega) ?_
        have hj : wrap64 (((j + 1 : Nat) : Int) - 1) = (j : Int) := by rw [w64 (by omega)]; omega
        rw [hj]
        refine Ev.pos (by omega) (Ev.pos (by omega) (Ev.bind (ev_has n E _ _ hE) (Ev.neg ?_ (Ev.now _))))
        rw [dec_f (show ¬ Has E (rd w (j : Int)) (rd w ((j + 1 : Nat) : Int)) from fun h => hp ⟨h1, fun _ => h⟩)]; simp
    · exact Ev.neg (by rw [dec_f h1]; simp) (Ev.now _)
theorem ev_different (w : List Int) (hl : w.length ≤ 1048576) : Ev (fun k => impl_different.f k w) (dec w.Nodup) := by
  simp only [impl_different.f]
  have := all_loop (L := fun k i => impl_different.l0 k w w w.length i) w.length (fun j => rd w (j : Int) ∉ w.take j) ?_ ?_ ?_ w.length 0 (by omega)
  · refine Ev.cast this (dec_congr ?_)
    rw [nodup_iff]
    exact ⟨fun h j hj => h j (Nat.zero_le _) hj, fun h j _ hj => h j hj⟩
  · refine Ev.succ ?_
    simp only [impl_different.l0]
    exact Ev.neg (by omega) (Ev.now _)
  · intro i hi hp b hb
    refine Ev.succ ?_
    simp only [impl_different.l0]
    refine Ev.pos (by omega) (Ev.pos (by omega) (Ev.pos (by omega) (Ev.pos (by omega) ?_)))
    rw [Int.toNat_natCast]
    refine Ev.bind (ev_containsInt _ _ (by simp; omega)) (Ev.neg (by rw [dec_f hp]; simp) ?_)
    rw [w64 (by omega)]; exact hb
  · intro i hi hp
    refine Ev.succ ?_
    simp only [impl_different.l0]
    refine Ev.pos (by omega) (Ev.pos (by omega) (Ev.pos (by omega) (Ev.pos (by omega) ?_)))
    rw [Int.toNat_natCast]
    exact Ev.bind (ev_containsInt _ _ (by simp; omega)) (Ev.pos (dec_t (Decidable.not_not.1 hp)) (Ev.now _))
theorem ev_impl_WayOk (n : Int) (E : List T) (w : List Int) (hE : E.length ≤ 1048576) (hl : w.length ≤ 1048576) : Ev (fun k => impl_WayOk.f k n E w) (dec (OK n E ∧ IsWay n E w)) := by
  simp only [impl_WayOk.f]
  refine Ev.bind (ev_impl_NetOk n E hE) ?_
  by_cases ok : OK n E
  · refine Ev.pos (dec_t ok) ?_
    by_cases h0 : (w.length : Int) > 0
    · refine Ev.pos h0 (Ev.bind (ev_walk n E w hE hl) ?_)
      by_cases h1 : (∀ v ∈ w, In n v) ∧ Walk (Has E) w
      · refine Ev.pos (dec_t h1) (Ev.bind (ev_different w hl) (Ev.some_ (dec_congr ?_)))
        exact ⟨fun h => ⟨ok, fun e => by subst e; simp at h0, h1.1, h, h1.2⟩, fun h => h.2.nd⟩
      · exact Ev.neg (by rw [dec_f h1]; simp) (Ev.ff (fun h => h1 ⟨h.2.inn, h.2.walk⟩) (Ev.now _))
    · exact Ev.neg h0 (Ev.ff (fun h => h.2.ne (List.length_eq_zero_iff.1 (by omega))) (Ev.now _))
  · exact Ev.neg (by rw [dec_f ok]; simp) (Ev.ff (fun h => ok h.1) (Ev.now _))
/-- A way from one knot to another one, of a valid net. -/
def Leads (n : Int) (E : List T) (a b : Int) (w : List Int) : Prop := OK n E ∧ IsWay n E w ∧ rd w 0 = a ∧ rd w ((w.length : Int) - 1) = b
theorem Leads.pos {n : Int} {E : List T} {a b : Int} {w : List Int} (h : Leads n E a b w) : 0 < w.length := List.length_pos_iff.2 h.2.1.ne
theorem ev_l13Ends (n : Int) (E : List T) (a b : Int) (w : List Int) (hE : E.length ≤ 1048576) (hw : WF E) (hl : w.length ≤ 1048576) : Ev (fun k => spec_l13Ends.f k n E a b w) (dec (Leads n E a b w)) := by
  simp only [spec_l13Ends.f]
  refine Ev.bind (ev_spec_WayOk n E w hE hw hl) ?_
  by_cases h : OK n E ∧ IsWay n E w
  · have h0 : 0 < w.length := List.length_pos_iff.2 h.2.ne
    refine Ev.pos (dec_t h) (Ev.pos (by omega) ?_)
    by_cases ha : rd w 0 = a
    · refine Ev.pos ha ?_
      rw [w64 (by omega)]
      refine Ev.pos (by omega) (Ev.pos (by omega) (Ev.some_ (dec_of ?_)))
      rw [beq_iff_eq]
      exact ⟨fun hb => ⟨h.1, h.2, ha, hb⟩, fun k => k.2.2.2⟩
    · exact Ev.neg ha (Ev.ff (fun k => ha k.2.2.1) (Ev.now _))
  · exact Ev.neg (by rw [dec_f h]; simp) (Ev.ff (fun k => h ⟨k.1, k.2.1⟩) (Ev.now _))
theorem ev_leads (n : Int) (E : List T) (a b : Int) (w : List Int) (hE : E.length ≤ 1048576) (hl : w.length ≤ 1048576) : Ev (fun k => impl_leads.f k n E w a b) (dec (Leads n E a b w)) := by
  simp only [impl_leads.f]
  refine Ev.bind (ev_impl_WayOk n E w hE hl) ?_
  by_cases h : OK n E ∧ IsWay n E w
  · have h0 : 0 < w.length := List.length_pos_iff.2 h.2.ne
    refine Ev.pos (dec_t h) (Ev.pos (by omega) ?_)
    by_cases ha : rd w 0 = a
    · refine Ev.pos ha ?_
      rw [w64 (by omega)]
      refine Ev.pos (by omega) (Ev.pos (by omega) (Ev.some_ (dec_of ?_)))
      rw [beq_iff_eq]
      exact ⟨fun hb => ⟨h.1, h.2, ha, hb⟩, fun k => k.2.2.2⟩
    · exact Ev.neg ha (Ev.ff (fun k => ha k.2.2.1) (Ev.now _))
  · exact Ev.neg (by rw [dec_f h]; simp) (Ev.ff (fun k => h ⟨k.1, k.2.1⟩) (Ev.now _))
end Go.Proofs.Ytdlnnjgjfngccaa.Th
namespace Go.Proofs.Ytdlnnjgjfngccaa.Th
open Go.RowKit Go.Proofs.YtdlnnjgjfngccaaW.PrintWords Go.Proofs.YtdlnnjgjfngccaaW.PrintLast Go.Proofs.YtdlnnjgjfngccaaW.PrintMore Go.Proofs.Ytdlnnjgjfngccaa.F
theorem walk_cons (R : Int → Int → Prop) (a b : Int) (l : List Int) : Walk R (a :: b :: l) ↔ R a b ∧ Walk R (b :: l) := Iff.rfl
theorem walk_app (R : Int → Int → Prop) : ∀ (A : List Int) (k : Int) (B : List Int), Walk R (A ++ k :: B) ↔ Walk R (A ++ [k]) ∧ Walk R (k :: B)
  | [], k, B => by simp [Walk]
  | [a], k, B => by simp [Walk]
  | a :: b :: A, k, B => by
    have := walk_app R (b :: A) k B
    simp only [List.cons_append, walk_cons] at this ⊢
    rw [this, and_assoc]
theorem walk_mono {R S : Int → Int → Prop} (h : ∀ a b, R a b → S a b) : ∀ w : List Int, Walk R w → Walk S w
  | [], _ => trivial
  | [_], _ => trivial
  | _ :: b :: l, k => ⟨h _ _ k.1, walk_mono h (b :: l) k.2⟩
theorem walk_rev {R : Int → Int → Prop} (hs : ∀ a b, R a b → R b a) : ∀ w : List Int, Walk R w → Walk R w.reverse
  | [], _ => trivial
  | [_], _ => trivial
  | a :: b :: l, k => by
    have ih := walk_rev hs (b :: l) k.2
    rw [List.reverse_cons] at ih ⊢
    rw [List.reverse_cons, List.append_assoc, List.singleton_append]
    exact (walk_app R _ _ _).2 ⟨ih, hs _ _ k.1, trivial⟩
/-- The ties of a row of knots. -/
def es : List Int → List T
  | [] => []
  | [_] => []
  | a :: b :: l => tie a b :: es (b :: l)
theorem es_app : ∀ (A : List Int) (k : Int) (B : List Int), es (A ++ k :: B) = es (A ++ [k]) ++ es (k :: B)
  | [], k, B => by simp [es]
  | [a], k, B => by simp [es]
  | a :: b :: A, k, B => by
    have := es_app (b :: A) k B
    simp only [List.cons_append, es] at this ⊢
    rw [this]
theorem mem_es_rev : ∀ (w : List Int) (t : T), t ∈ es w.reverse ↔ t ∈ es w
  | [], t => by simp
  | [_], t => by simp
  | a :: b :: l, t => by
    have ih := mem_es_rev (b :: l) t
    rw [List.reverse_cons] at ih ⊢
    rw [List.reverse_cons, List.append_assoc, List.singleton_append, es_app, List.mem_append, ih]
    simp only [es, List.mem_cons, List.not_mem_nil, or_false]
    rw [tie_comm b a]
    exact Or.comm
theorem mem_es {t : T} : ∀ {w : List Int}, t ∈ es w → ∃ A k x B, w = A ++ k :: x :: B ∧ tie k x = t
  | [], h => by simp [es] at h
  | [_], h => by simp [es] at h
  | a :: b :: l, h => by
    simp only [es, List.mem_cons] at h
    rcases h with h | h
    · exact ⟨[], a, b, l, rfl, h.symm⟩
    · obtain ⟨A, k, x, B, e, ht⟩ := mem_es (w := b :: l) h
      exact ⟨a :: A, k, x, B, by rw [e]; rfl, ht⟩
theorem es_mem (A : List Int) (k x : Int) (B : List Int) : tie k x ∈ es (A ++ k :: x :: B) := by
  rw [es_app]; simp [es]
theorem walk_es {E : List T} : ∀ {w : List Int}, Walk (Has E) w ↔ ∀ t ∈ es w, t ∈ E
  | [] => by simp [Walk, es]
  | [_] => by simp [Walk, es]
  | a :: b :: l => by
    rw [walk_cons, walk_es (w := b :: l)]
    simp only [es, List.mem_cons, forall_eq_or_imp]
    exact Iff.rfl
/-- A path: different knots, each tied to the next. -/
structure Path (E : List T) (a b : Int) (w : List Int) : Prop where
  nd : w.Nodup
  walk : Walk (Has E) w
  hd : w.head? = some a
  lst : w.getLast? = some b
theorem Path.mono {E F : List T} (h : ∀ t, t ∈ E → t ∈ F) {a b : Int} {w : List Int} (p : Path E a b w) : Path F a b w := ⟨p.nd, walk_mono (fun _ _ k => h _ k) w p.walk, p.hd, p.lst⟩
theorem Path.rev {E : List T} {a b : Int} {w : List Int} (p : Path E a b w) : Path E b a w.reverse :=
  ⟨List.pairwise_reverse.2 (p.nd.imp fun h => h.symm), walk_rev (fun _ _ k => k.symm) _ p.walk, by rw [List.head?_reverse]; exact p.lst, by rw [List.getLast?_reverse]; exact p.hd⟩
theorem Path.ne {E : List T} {a b : Int} {w : List Int} (p : Path E a b w) : w ≠ [] := by
  rintro rfl; have := p.hd; simp at this
theorem Path.memA {E : List T} {a b : Int} {w : List Int} (p : Path E a b w) : a ∈ w := List.mem_of_mem_head? (by rw [p.hd]; rfl)
theorem Path.memB {E : List T} {a b : Int} {w : List Int} (p : Path E a b w) : b ∈ w := List.mem_of_getLast? p.lst
theorem Path.single (E : List T) (a : Int) : Path E a a [a] := ⟨by simp, trivial, rfl, rfl⟩
/-- A path's head stands by itself. -/
theorem Path.cons_eq {E : List T} {a b : Int} {w : List Int} (p : Path E a b w) : ∃ r, w = a :: r := by
  cases w with
  | nil => exact absurd rfl p.ne
  | cons x r => have := p.hd; simp at this; exact ⟨r, by rw [this]⟩
/-- The way on from a knot of it. -/
theorem Path.drop {E : List T} {a b k : Int} {A B : List Int} (p : Path E a b (A ++ k :: B)) : Path E k b (k :: B) :=
  ⟨(List.nodup_append.1 p.nd).2.1, ((walk_app _ _ _ _).1 p.walk).2, rfl, by have := p.lst; rw [List.getLast?_append] at this; simpa using this⟩
theorem Path.take {E : List T} {a b k : Int} {A B : List Int} (p : Path E a b (A ++ k :: B)) : Path E a k (A ++ [k]) := by
  refine ⟨?_, ((walk_app _ _ _ _).1 p.walk).1, ?_, by simp⟩
  · have := p.nd
    rw [List.nodup_append] at this ⊢
    refine ⟨this.1, by simp, fun x hx y hy => ?_⟩
    simp only [List.mem_singleton] at hy
    subst hy
    exact this.2.2 x hx y (by simp)
  · have := p.hd
    cases A <;> simpa using this
/-- A knot ahead. -/
theorem Path.consP {E : List T} {k a b : Int} {w : List Int} (p : Path E a b w) (h : Has E k a) (hk : k ∉ w) : Path E k b (k :: w) := by
  obtain ⟨r, rfl⟩ := p.cons_eq
  exact ⟨List.nodup_cons.2 ⟨hk, p.nd⟩, ⟨h, p.walk⟩, rfl, by have := p.lst; simpa using this⟩
/-- Two paths that have one knot alone in common, put together. -/
theorem Path.append {E : List T} {a k b : Int} {A B : List Int} (p : Path E a k (A ++ [k])) (q : Path E k b (k :: B)) (h : ∀ x ∈ A, x ∉ B) : Path E a b (A ++ k :: B) := by
  refine ⟨?_, (walk_app _ _ _ _).2 ⟨p.walk, q.walk⟩, ?_, ?_⟩
  · rw [List.nodup_append]
    have hp := List.nodup_append.1 p.nd
    refine ⟨hp.1, q.nd, fun x hx y hy e => ?_⟩
    subst e
    rcases List.mem_cons.1 hy with rfl | hy
    · exact hp.2.2 x hx x (by simp) rfl
    · exact h x hx hy
  · have := p.hd
    cases A <;> simpa using this
  · have := q.lst
    rw [List.getLast?_append]
    simpa using this
theorem Path.conn {E : List T} : ∀ {w : List Int} {a b : Int}, Path E a b w → Conn E a b
  | [], a, b, p => absurd rfl p.ne
  | [x], a, b, p => by
    have h := p.hd; have l := p.lst
    simp at h l
    subst h; subst l
    exact .refl _
  | x :: y :: r, a, b, p => by
    have h := p.hd
    simp at h
    subst h
    have q : Path E y b (y :: r) := Path.drop (A := [x]) p
    exact (Conn.one p.walk.1).trans q.conn
theorem Path.conn_mem {E : List T} {w : List Int} {a b : Int} (p : Path E a b w) {x : Int} (hx : x ∈ w) : Conn E a x := by
  obtain ⟨A, B, rfl⟩ := List.append_of_mem hx
  exact p.take.conn
/-- What is come to is come to by a path. -/
theorem Conn.path {E : List T} {a b : Int} (h : Conn E a b) : ∃ w, Path E a b w := by
  induction h with
  | refl => exact ⟨_, Path.single _ _⟩
  | step _ m ih =>
    rename_i c d _
    obtain ⟨w, p⟩ := ih
    by_cases hd : d ∈ w
    · obtain ⟨A, B, rfl⟩ := List.append_of_mem hd
      exact ⟨_, p.take⟩
    · have := (p.rev.consP m.symm (by simpa using hd)).rev
      exact ⟨_, this⟩
/-- A path keeps off a knot that is none of its own. -/
theorem Path.off {E : List T} {a b v : Int} {w : List Int} (p : Path E a b w) (hv : v ∉ w) : Path (lessK E v) a b w := by
  refine ⟨p.nd, walk_es.2 (fun t ht => mem_less.2 ⟨walk_es.1 p.walk t ht, fun hk => ?_⟩), p.hd, p.lst⟩
  obtain ⟨A, k, x, B, rfl, rfl⟩ := mem_es ht
  have h1 : k ∈ A ++ k :: x :: B := by simp
  have h2 : x ∈ A ++ k :: x :: B := by simp
  rcases tie_ends (rfl : tie k x = tie k x) with ⟨e1, e2⟩ | ⟨e1, e2⟩ <;> rcases hk with hk | hk
  · exact hv (by rw [← hk, ← e1]; exact h1)
  · exact hv (by rw [← hk, ← e2]; exact h2)
  · exact hv (by rw [← hk, ← e2]; exact h2)
  · exact hv (by rw [← hk, ← e1]; exact h1)
/-- A path of a net without a knot: it is none of its knots, but as the start. -/
theorem not_mem_off {E : List T} {a b v : Int} {w : List Int} (p : Path (lessK E v) a b w) (ha : a ≠ v) : v ∉ w := by
  intro hv
  have hc := p.conn_mem hv
  rcases hc.symm.first with e | ⟨c, h, _⟩
  · exact ha e.symm
  · have := (mem_less.1 h).2
    refine this ?_
    rcases tie_ends (rfl : tie v c = tie v c) with ⟨e1, _⟩ | ⟨e1, _⟩
    · exact Or.inl e1.symm
    · exact Or.inr e1.symm
def On (t : T) (x : Int) : Prop := x = t.f0 ∨ x = t.f1
/-- No knot parts them. -/
def Bl (E : List T) (s t : T) : Prop := ∀ v, ∃ x y, On s x ∧ x ≠ v ∧ On t y ∧ y ≠ v ∧ Conn (lessK E v) x y
/-- Two ends of a tie hang together without a knot that is none of them. -/
theorem on_conn {n : Int} {E : List T} (h : OK n E) {t : T} (ht : t ∈ E) {v x y : Int} (hx : On t x) (hxv : x ≠ v) (hy : On t y) (hyv : y ≠ v) : Conn (lessK E v) x y := by
  by_cases e : x = y
  · subst e; exact .refl _
  · have hm : t ∈ lessK E v := by
      refine mem_less.2 ⟨ht, fun k => ?_⟩
      rcases hx with rfl | rfl <;> rcases hy with rfl | rfl <;> rcases k with k | k <;> first | exact e rfl | exact hxv k | exact hyv k
    have hh := has_of_mem (h.less (AtK v)) hm
    rcases hx with rfl | rfl <;> rcases hy with rfl | rfl
    · exact .refl _
    · exact .one hh
    · exact .one hh.symm
    · exact .refl _
theorem Bl.symm {E : List T} {s t : T} (h : Bl E s t) : Bl E t s := fun v => by
  obtain ⟨x, y, a, b, c, d, e⟩ := h v
  exact ⟨y, x, c, d, a, b, e.symm⟩
theorem Bl.refl {n : Int} {E : List T} (h : OK n E) {t : T} (ht : t ∈ E) : Bl E t t := fun v => by
  have := h.tie t ht
  by_cases e : t.f0 = v
  · exact ⟨t.f1, t.f1, Or.inr rfl, by omega, Or.inr rfl, by omega, .refl _⟩
  · exact ⟨t.f0, t.f0, Or.inl rfl, e, Or.inl rfl, e, .refl _⟩
theorem Bl.trans {n : Int} {E : List T} (h : OK n E) {s t u : T} (ht : t ∈ E) (p : Bl E s t) (q : Bl E t u) : Bl E s u := fun v => by
  obtain ⟨x, y, a, b, c, d, e⟩ := p v
  obtain ⟨x', y', a', b', c', d', e'⟩ := q v
  exact ⟨x, y', a, b, c', d', (e.trans (on_conn h ht c d a' b')).trans e'⟩
/-- Two ties that meet, and hang together without the knot where they meet. -/
def Side (E : List T) (s t : T) : Prop := ∃ k x y, s = tie k x ∧ t = tie k y ∧ x ≠ k ∧ y ≠ k ∧ Conn (lessK E k) x y
theorem Side.symm {E : List T} {s t : T} (h : Side E s t) : Side E t s := by
  obtain ⟨k, x, y, a, b, c, d, e⟩ := h
  exact ⟨k, y, x, b, a, d, c, e.symm⟩
/-- s is t, or a path leads over s from one end of t to the other, without t. -/
def CC (E : List T) (t s : T) : Prop := s = t ∨ ∃ w, Path (less E (· = t)) t.f0 t.f1 w ∧ s ∈ es w
theorem mem_of_es {E : List T} {a b : Int} {w : List Int} {s : T} (p : Path E a b w) (h : s ∈ es w) : s ∈ E := walk_es.1 p.walk s h
/-- The first knot of a row that is one of some. -/
theorem first_in (S : List Int) : ∀ w : List Int, (∃ x ∈ w, x ∈ S) → ∃ A z B, w = A ++ z :: B ∧ z ∈ S ∧ ∀ x ∈ A, x ∉ S
  | [], h => by simp at h
  | a :: l, h => by
    by_cases ha : a ∈ S
    · exact ⟨[], a, l, rfl, ha, by simp⟩
    · obtain ⟨A, z, B, e, hz, hA⟩ := first_in S l (by
        obtain ⟨x, hx, hs⟩ := h
        rcases List.mem_cons.1 hx with rfl | hx
        · exact absurd hs ha
        · exact ⟨x, hx, hs⟩)
      refine ⟨a :: A, z, B, by rw [e]; rfl, hz, fun x hx => ?_⟩
      rcases List.mem_cons.1 hx with rfl | hx
      · exact ha
      · exact hA x hx
/-- Two knots of a row, in their order. -/
theorem two_in {w : List Int} {k z : Int} (hk : k ∈ w) (hz : z ∈ w) (hne : k ≠ z) : (∃ A M C, w = A ++ k :: (M ++ z :: C)) ∨ ∃ A M C, w = A ++ z :: (M ++ k :: C) := by
  obtain ⟨A, B, rfl⟩ := List.append_of_mem hk
  rcases List.mem_append.1 hz with h | h
  · obtain ⟨A1, A2, rfl⟩ := List.append_of_mem h
    exact Or.inr ⟨A1, A2, B, by simp⟩
  · rcases List.mem_cons.1 h with h | h
    · exact absurd h.symm hne
    · obtain ⟨B1, B2, rfl⟩ := List.append_of_mem h
      exact Or.inl ⟨A, B1, B2, rfl⟩
/-- An ear takes the place of what lies between its ends. -/
theorem ear {F : List T} {a b k z : Int} {A M C Q : List Int} (p : Path F a b (A ++ k :: (M ++ z :: C))) (q : Path F k z (k :: (Q ++ [z]))) (hQ : ∀ x ∈ Q, x ∉ A ++ k :: (M ++ z :: C)) : Path F a b (A ++ k :: (Q ++ z :: C)) := by
  have p1 : Path F a k (A ++ [k]) := p.take
  have p2 : Path F z b (z :: C) := Path.drop (A := A ++ k :: M) (by simpa using p)
  have q2 : Path F k b (k :: (Q ++ z :: C)) := by
    have := Path.append (A := k :: Q) (B := C) (by simpa using q) p2 (fun x hx hc => by
      rcases List.mem_cons.1 hx with rfl | hx
      · have := (List.nodup_cons.1 (List.nodup_append.1 p.nd).2.1).1
        exact this (by simp [hc])
      · exact hQ x hx (by simp [hc]))
    simpa using this
  refine p1.append q2 (fun x hx hm => ?_)
  rcases List.mem_append.1 hm with h | h
  · exact hQ x h (by simp [hx])
  · exact (List.nodup_append.1 p.nd).2.2 x hx x (by
      rcases List.mem_cons.1 h with rfl | h <;> simp [*]) rfl
theorem CC.step {n : Int} {E : List T} (h : OK n E) {t e f : T} (ht : t ∈ E) (c : CC E t e) (hf : f ∈ E) (hs : Side E e f) : CC E t f := by
  by_cases hft : f = t
  · exact Or.inl hft
  obtain ⟨k, x, y, rfl, rfl, hx, hy, hc⟩ := hs
  obtain ⟨q, Q⟩ := hc.symm.path
  have hkq : k ∉ q := not_mem_off Q hy
  have hte := h.tie t ht
  have hfF : Has (less E (· = t)) k y := mem_less.2 ⟨hf, hft⟩
  rcases c with e | ⟨w, P, he⟩
  · -- the tie itself: the ring is closed by it
    have QF : Path (less E (· = t)) y x q := Q.mono (fun u hu => mem_less.2 ⟨(mem_less.1 hu).1, fun e' => (mem_less.1 hu).2 (by
      rcases tie_ends e with ⟨a, _⟩ | ⟨a, _⟩
      · exact Or.inl (by rw [e', ← a])
      · exact Or.inr (by rw [e', ← a]))⟩)
    have P := QF.consP hfF hkq
    have hm : tie k y ∈ es (k :: q) := by
      obtain ⟨r, rfl⟩ := Q.cons_eq
      simp [es]
    rcases tie_ends e with ⟨a, b⟩ | ⟨a, b⟩
    · exact Or.inr ⟨_, by rw [← a, ← b]; exact P, hm⟩
    · exact Or.inr ⟨_, by rw [← a, ← b]; exact P.rev, (mem_es_rev _ _).2 hm⟩
  · have hkw : k ∈ w := by
      obtain ⟨A, k', x', B, rfl, e'⟩ := mem_es he
      rcases tie_inj e' with ⟨a, _⟩ | ⟨_, b⟩
      · rw [← a]; simp
      · rw [← b]; simp
    have hxw : x ∈ w := by
      obtain ⟨A, k', x', B, rfl, e'⟩ := mem_es he
      rcases tie_inj e' with ⟨_, b⟩ | ⟨a, _⟩
      · rw [← b]; simp
      · rw [← a]; simp
    obtain ⟨Q1, z, Q2, rfl, hz, hQ1⟩ := first_in w q ⟨x, Q.memB, hxw⟩
    have hkz : k ≠ z := fun e' => hkq (by rw [e']; simp)
    have Q' : Path (lessK E k) y z (Q1 ++ [z]) := Q.take
    -- none of its ties is t: one end of each but the first is off the path; and the first is f
    have QF : Path (less E (· = t)) y z (Q1 ++ [z]) := by
      refine ⟨Q'.nd, walk_es.2 (fun u hu => mem_less.2 ⟨(mem_less.1 (mem_of_es Q' hu)).1, fun e' => ?_⟩), Q'.hd, Q'.lst⟩
      subst e'
      obtain ⟨A, k', x', B, e2, e3⟩ := mem_es hu
      have hk' : k' ∈ Q1 := by
        have : Q1 = A ++ k' :: (x' :: B).dropLast := by
          have h1 := congrArg List.dropLast e2
          rw [List.dropLast_concat] at h1
          rw [h1, List.dropLast_append_of_ne_nil (by simp), List.dropLast_cons_of_ne_nil (by simp)]
        rw [this]; simp
      have hoff := hQ1 k' hk'
      rcases tie_ends e3 with ⟨a, _⟩ | ⟨a, _⟩
      · exact hoff (by rw [a]; exact P.memA)
      · exact hoff (by rw [a]; exact P.memB)
    have hkQ : k ∉ Q1 ++ [z] := not_mem_off Q' hy
    have QK : Path (less E (· = t)) k z (k :: (Q1 ++ [z])) := QF.consP hfF hkQ
    have hm : ∀ C : List Int, tie k y ∈ es (k :: (Q1 ++ z :: C)) := fun C => by
      have := Q'.hd
      cases Q1 with
      | nil => simp at this; subst this; simp [es]
      | cons a r => simp at this; subst this; simp [es]
    rcases two_in hkw hz hkz with ⟨A, M, C, rfl⟩ | ⟨A, M, C, rfl⟩
    · refine Or.inr ⟨_, ear P QK hQ1, ?_⟩
      rw [es_app]
      exact List.mem_append.2 (Or.inr (hm C))
    · have P' : Path (less E (· = t)) t.f1 t.f0 (C.reverse ++ k :: (M.reverse ++ z :: A.reverse)) := by
        have := P.rev
        simpa using this
      have R := ear P' QK (fun x hx hn => hQ1 x hx (by
        simp only [List.mem_append, List.mem_cons, List.mem_reverse] at hn ⊢
        rcases hn with a | a | a | a | a <;> simp [a]))
      refine Or.inr ⟨_, R.rev, (mem_es_rev _ _).2 ?_⟩
      rw [es_app]
      exact List.mem_append.2 (Or.inr (hm A.reverse))
/-- Two different knots of a valid net. -/
def Two2 (n : Int) (E : List T) (a b : Int) : Prop := OK n E ∧ In n a ∧ In n b ∧ a ≠ b
theorem ev_twoKnots (n : Int) (E : List T) (a b : Int) (hE : E.length ≤ 1048576) : Ev (fun k => impl_twoKnots.f k n E a b) (dec (Two2 n E a b)) := by
  simp only [impl_twoKnots.f]
  refine Ev.bind (ev_impl_NetOk n E hE) ?_
  by_cases h : OK n E
  · refine Ev.pos (dec_t h) (Ev.bind0 (knot_eq n E a) ?_)
    by_cases ha : In n a
    · refine Ev.pos (dec_t ha) (Ev.bind0 (knot_eq n E b) ?_)
      by_cases hb : In n b
      · refine Ev.pos (dec_t hb) (Ev.some_ (dec_of ?_))
        rw [bne_iff_ne]
        exact ⟨fun k => ⟨h, ha, hb, k⟩, fun k => k.2.2.2⟩
      · exact Ev.neg (by rw [dec_f hb]; simp) (Ev.ff (fun k => hb k.2.2.1) (Ev.now _))
    · exact Ev.neg (by rw [dec_f ha]; simp) (Ev.ff (fun k => ha k.2.1) (Ev.now _))
  · exact Ev.neg (by rw [dec_f h]; simp) (Ev.ff (fun k => h k.1) (Ev.now _))
theorem rd_L1_nat (W : List (List Int)) (i : Nat) (h : i < W.length) : rd_L1 W (i : Int) = W[i] := by
  simp [rd_L1, List.getD_eq_getElem?_getD, List.getElem?_eq_getElem h]
/-- The ties of a way are different ones. -/
theorem es_nodup : ∀ {w : List Int}, w.Nodup → (es w).Nodup
  | [], _ => by simp [es]
  | [_], _ => by simp [es]
  | a :: b :: l, h => by
    have h2 := (List.nodup_cons.1 h).2
    rw [es, List.nodup_cons]
    refine ⟨fun hm => ?_, es_nodup h2⟩
    obtain ⟨A, k, x, B, e, ht⟩ := mem_es hm
    have hk : k ∈ b :: l := by rw [e]; simp
    have hx : x ∈ b :: l := by rw [e]; simp
    rcases tie_inj ht with ⟨e1, _⟩ | ⟨_, e1⟩
    · exact (List.nodup_cons.1 h).1 (by rw [← e1]; exact hk)
    · exact (List.nodup_cons.1 h).1 (by rw [← e1]; exact hx)
/-- Ways between two knots that have no tie twice. -/
def FlowOkP (n : Int) (E : List T) (a b : Int) (W : List (List Int)) : Prop := Two2 n E a b ∧ W.length ≤ 8 ∧ (∀ w ∈ W, Leads n E a b w) ∧ (W.flatMap es).Nodup
/-- How many ways go over a tie. -/
noncomputable def uses (W : List (List Int)) (t : T) : Nat := (W.filter (fun w => dec (t ∈ es w))).length
theorem uses_cons_t {w : List Int} {W : List (List Int)} {t : T} (h : t ∈ es w) : uses (w :: W) t = uses W t + 1 := by
  unfold uses
  rw [List.filter_cons_of_pos (by rw [dec_t h])]
  rfl
theorem uses_cons_f {w : List Int} {W : List (List Int)} {t : T} (h : t ∉ es w) : uses (w :: W) t = uses W t := by
  unfold uses
  rw [List.filter_cons_of_neg (by rw [dec_f h]; simp)]
theorem uses_pos {W : List (List Int)} {t : T} : 0 < uses W t ↔ ∃ w ∈ W, t ∈ es w := by
  unfold uses
  rw [List.length_pos_iff_exists_mem]
  constructor
  · rintro ⟨w, hw⟩
    exact ⟨w, (List.mem_filter.1 hw).1, dec_iff.1 (List.mem_filter.1 hw).2⟩
  · rintro ⟨w, hw, ht⟩
    exact ⟨w, List.mem_filter.2 ⟨hw, dec_t ht⟩⟩
theorem nodup_uses : ∀ {W : List (List Int)}, (∀ w ∈ W, w.Nodup) → ((W.flatMap es).Nodup ↔ ∀ t, uses W t ≤ 1)
  | [], _ => by simp [uses]
  | w :: W, h => by
    have ih := nodup_uses (W := W) (fun w hw => h w (by simp [hw]))
    rw [List.flatMap_cons, List.nodup_append]
    constructor
    · rintro ⟨_, h2, h3⟩ t
      by_cases ht : t ∈ es w
      · rw [uses_cons_t ht]
        by_cases hu : 0 < uses W t
        · obtain ⟨w', hw', ht'⟩ := uses_pos.1 hu
          exact absurd rfl (h3 t ht t (List.mem_flatMap.2 ⟨w', hw', ht'⟩))
        · omega
      · rw [uses_cons_f ht]
        exact ih.1 h2 t
    · intro hu
      refine ⟨es_nodup (h w (by simp)), ih.2 (fun t => ?_), fun t ht t' ht' e => ?_⟩
      · have := hu t
        by_cases ht : t ∈ es w
        · rw [uses_cons_t ht] at this; omega
        · rwa [uses_cons_f ht] at this
      · subst e
        have := hu t
        rw [uses_cons_t ht] at this
        obtain ⟨w', hw', ht'⟩ := List.mem_flatMap.1 ht'
        have := uses_pos.2 ⟨w', hw', ht'⟩
        omega
theorem Leads.es_mem {n : Int} {E : List T} {a b : Int} {w : List Int} (h : Leads n E a b w) {t : T} (ht : t ∈ es w) : t ∈ E := walk_es.1 h.2.1.walk t ht
theorem flowOk_iff {n : Int} {E : List T} {a b : Int} {W : List (List Int)} : FlowOkP n E a b W ↔ Two2 n E a b ∧ W.length ≤ 8 ∧ (∀ w ∈ W, Leads n E a b w) ∧ ∀ t ∈ E, uses W t ≤ 1 := by
  unfold FlowOkP
  constructor
  · rintro ⟨h1, h2, h3, h4⟩
    exact ⟨h1, h2, h3, fun t _ => (nodup_uses (fun w hw => (h3 w hw).2.1.nd)).1 h4 t⟩
  · rintro ⟨h1, h2, h3, h4⟩
    refine ⟨h1, h2, h3, (nodup_uses (fun w hw => (h3 w hw).2.1.nd)).2 (fun t => ?_)⟩
    by_cases ht : 0 < uses W t
    · obtain ⟨w, hw, hm⟩ := uses_pos.1 ht
      exact h4 t ((h3 w hw).es_mem hm)
    · omega
theorem ev_l21Uses_loop (w : List Int) (t : T) (hl : w.length ≤ 1048576) : ∀ (d i : Nat), 1 ≤ i → i + d = w.length → Ev (fun k => spec_l21Uses.l0 k w i t.f0 t.f1) (dec (t ∈ es (w.drop (i - 1))))
  | 0, i, h1, h => by
    refine Ev.succ ?_
    simp only [spec_l21Uses.l0]
    refine Ev.neg (by omega) (Ev.ff (fun hm => ?_) (Ev.now _))
    have : (w.drop (i - 1)).length = 1 := by rw [List.length_drop]; omega
    obtain ⟨x, hx⟩ := List.length_eq_one_iff.1 this
    rw [hx] at hm
    simp [es] at hm
  | d + 1, i, h1, h => by
    obtain ⟨j, rfl⟩ : ∃ j, i = j + 1 := ⟨i - 1, by omega⟩
    have ih := ev_l21Uses_loop w t hl d (j + 1 + 1) (by omega) (by omega)
    refine Ev.succ ?_
    simp only [spec_l21Uses.l0]
    rw [w64 (x := ((j + 1 : Nat) : Int) - 1) (by omega), show ((j + 1 : Nat) : Int) - 1 = (j : Int) by omega]
    refine Ev.pos (by omega) (Ev.pos (by omega) (Ev.pos (by omega) (Ev.pos (by omega) (Ev.bind0 (l1Tie _ _) ?_))))
    rw [rd_getElem w j (by omega), rd_getElem w (j + 1) (by omega)]
    have e : w.drop (j + 1 - 1) = w[j] :: w[j + 1] :: w.drop (j + 1 + 1) := by
      rw [show j + 1 - 1 = j by omega, List.drop_eq_getElem_cons (by omega : j < w.length), List.drop_eq_getElem_cons (by omega : j + 1 < w.length)]
    rw [e, es]
    by_cases hh : tie w[j] w[j + 1] = t
    · refine Ev.pos ?_ (Ev.tt (by rw [hh]; simp) (Ev.now _))
      rw [hh]; simp
    · refine Ev.neg ?_ ?_
      · intro k
        simp only [Bool.and_eq_true, beq_iff_eq] at k
        exact hh (T.ext k.1 k.2)
      · rw [w64 (by omega), show ((j + 1 : Nat) : Int) + 1 = ((j + 1 + 1 : Nat) : Int) by omega]
        refine Ev.cast ih (dec_congr ?_)
        rw [show j + 1 + 1 - 1 = j + 1 by omega, List.drop_eq_getElem_cons (by omega : j + 1 < w.length)]
        simp [Ne.symm hh]
theorem ev_l21Uses (w : List Int) (t : T) (hl : w.length ≤ 1048576) : Ev (fun k => spec_l21Uses.f k w t.f0 t.f1) (dec (t ∈ es w)) := by
  simp only [spec_l21Uses.f]
  by_cases h : w.length = 0
  · obtain rfl := List.length_eq_zero_iff.1 h
    refine Ev.succ ?_
    simp only [spec_l21Uses.l0]
    exact Ev.neg (by simp) (Ev.ff (by simp [es]) (Ev.now _))
  · exact Ev.cast (ev_l21Uses_loop w t hl (w.length - 1) 1 (by omega) (by omega)) (by simp)
/-- One tie: how many ways so far. -/
theorem ev_FlowOk_l2 {n : Int} {E : List T} {W : List (List Int)} (hW : W.length ≤ 8) (hr : ∀ w ∈ W, w.length ≤ 1048576) (hE : E.length ≤ 64) (x : Nat) (hx : x < E.length) {r : Bool} (hnext : uses W E[x] ≤ 1 → Ev (fun k => spec_FlowOk.l1 k W ((x + 1 : Nat) : Int) n E) r) (hbad : 1 < uses W E[x] → r = false) :
    ∀ (d j u : Nat), j + d = W.length → u + uses (W.drop j) E[x] = uses W E[x] → Ev (fun k => spec_FlowOk.l2 k W x u j n E) r
  | 0, j, u, h, hu => by
    refine Ev.succ ?_
    simp only [spec_FlowOk.l2]
    rw [List.drop_of_length_le (by omega)] at hu
    simp only [uses, List.filter_nil, List.length_nil, Nat.add_zero] at hu
    refine Ev.neg (by omega) ?_
    by_cases h1 : (u : Int) > 1
    · refine Ev.pos h1 (Ev.some_ (hbad ?_).symm)
      unfold uses; omega
    · refine Ev.neg h1 ?_
      rw [w64 (by omega)]
      exact hnext (by unfold uses; omega)
  | d + 1, j, u, h, hu => by
    have hj : j < W.length := by omega
    have hul : uses W E[x] ≤ W.length := List.length_filter_le _ _
    refine Ev.succ ?_
    simp only [spec_FlowOk.l2]
    rw [rd_L1_nat W j hj, rd_T_nat E x hx]
    refine Ev.pos (by omega) (Ev.pos (by omega) (Ev.pos (by omega) (Ev.pos (by omega) (Ev.bind (ev_l21Uses W[j] E[x] (hr _ (List.getElem_mem hj))) ?_))))
    rw [List.drop_eq_getElem_cons hj] at hu
    by_cases ht : E[x] ∈ es W[j]
    · rw [uses_cons_t ht] at hu
      refine Ev.pos (dec_t ht) ?_
      rw [w64 (by omega), w64 (by omega)]
      exact ev_FlowOk_l2 hW hr hE x hx hnext hbad d (j + 1) (u + 1) (by omega) (by omega)
    · rw [uses_cons_f ht] at hu
      refine Ev.neg (by rw [dec_f ht]; simp) ?_
      rw [w64 (by omega)]
      exact ev_FlowOk_l2 hW hr hE x hx hnext hbad d (j + 1) u (by omega) (by omega)
theorem ev_FlowOk_l1 {n : Int} {E : List T} {W : List (List Int)} (hW : W.length ≤ 8) (hr : ∀ w ∈ W, w.length ≤ 1048576) (hE : E.length ≤ 64) : ∀ (d x : Nat), x + d = E.length → Ev (fun k => spec_FlowOk.l1 k W x n E) (dec (∀ t ∈ E.drop x, uses W t ≤ 1))
  | 0, x, h => by
    refine Ev.succ ?_
    simp only [spec_FlowOk.l1]
    refine Ev.neg (by omega) (Ev.tt (fun t ht => ?_) (Ev.now _))
    rw [List.drop_of_length_le (by omega)] at ht
    simp at ht
  | d + 1, x, h => by
    have hx : x < E.length := by omega
    have ih := ev_FlowOk_l1 (n := n) hW hr hE d (x + 1) (by omega)
    refine Ev.succ ?_
    simp only [spec_FlowOk.l1]
    refine Ev.pos (by omega) (ev_FlowOk_l2 hW hr hE x hx (fun hu => ?_) (fun hu => ?_) W.length 0 0 (by omega) (by simp))
    · refine Ev.cast ih (dec_congr ?_)
      rw [List.drop_eq_getElem_cons hx, List.forall_mem_cons]
      exact ⟨fun k => ⟨hu, k⟩, fun k => k.2⟩
    · refine dec_f (fun k => ?_)
      have := k E[x] (by rw [List.drop_eq_getElem_cons hx]; exact List.mem_cons_self)
      omega
theorem ev_FlowOk_l0 {n : Int} {E : List T} {a b : Int} {W : List (List Int)} (hW : W.length ≤ 8) (hr : ∀ w ∈ W, w.length ≤ 1048576) (hE : E.length ≤ 64) (hw : WF E) : ∀ (d x : Nat), x + d = W.length →
    Ev (fun k => spec_FlowOk.l0 k a b W x n E) (dec ((∀ w ∈ W.drop x, Leads n E a b w) ∧ ∀ t ∈ E, uses W t ≤ 1))
  | 0, x, h => by
    refine Ev.succ ?_
    simp only [spec_FlowOk.l0]
    refine Ev.neg (by omega) (Ev.cast (ev_FlowOk_l1 hW hr hE E.length 0 (by omega)) (dec_congr ?_))
    rw [List.drop_of_length_le (by omega : W.length ≤ x)]
    simp
  | d + 1, x, h => by
    have hx : x < W.length := by omega
    have ih := ev_FlowOk_l0 (n := n) (E := E) (a := a) (b := b) hW hr hE hw d (x + 1) (by omega)
    refine Ev.succ ?_
    simp only [spec_FlowOk.l0]
    rw [rd_L1_nat W x hx]
    refine Ev.pos (by omega) (Ev.pos (by omega) (Ev.bind (ev_l13Ends n E a b W[x] (by omega) hw (hr _ (List.getElem_mem hx))) ?_))
    by_cases hl : Leads n E a b W[x]
    · refine Ev.pos (dec_t hl) ?_
      rw [w64 (by omega)]
      refine Ev.cast ih (dec_congr ?_)
      rw [List.drop_eq_getElem_cons hx, List.forall_mem_cons]
      exact ⟨fun k => ⟨⟨hl, k.1⟩, k.2⟩, fun k => ⟨k.1.2, k.2⟩⟩
    · refine Ev.neg (by rw [dec_f hl]; simp) (Ev.ff (fun k => hl (k.1 _ ?_)) (Ev.now _))
      rw [List.drop_eq_getElem_cons hx]; exact List.mem_cons_self
theorem ev_spec_FlowOk (n : Int) (E : List T) (a b : Int) (W : List (List Int)) (hE : E.length ≤ 1048576) (hw : WF E) (hW : W.length ≤ 1048576) (hr : ∀ w ∈ W, w.length ≤ 1048576) : Ev (fun k => spec_FlowOk.f k n E a b W) (dec (FlowOkP n E a b W)) := by
  simp only [spec_FlowOk.f]
  have bad : ¬ FlowOkP n E a b W → Ev (fun k => spec_FlowOk.j0 k a b W true n E) (dec (FlowOkP n E a b W)) := fun hb => by
    refine Ev.succ ?_
    simp only [spec_FlowOk.j0]
    exact Ev.pos (by trivial) (Ev.ff hb (Ev.now _))
  refine Ev.bind (ev_l1Knot n E a hE hw) ?_
  by_cases ha : OK n E ∧ In n a
  · refine Ev.pos (dec_t ha) (Ev.bind (ev_l1Knot n E b hE hw) ?_)
    by_cases hb : OK n E ∧ In n b
    · refine Ev.pos (dec_t hb) ?_
      by_cases hab : a = b
      · exact Ev.pos hab (bad (fun k => k.1.2.2.2 hab))
      · refine Ev.neg hab ?_
        by_cases h8 : (W.length : Int) > 8
        · rw [decide_eq_true h8]
          exact bad (fun k => by have := k.2.1; omega)
        · rw [decide_eq_false h8]
          refine Ev.succ ?_
          simp only [spec_FlowOk.j0]
          refine Ev.neg (by simp) (Ev.cast (ev_FlowOk_l0 (by omega) hr ha.1.length hw W.length 0 (by omega)) (dec_congr ?_))
          rw [flowOk_iff, List.drop_zero]
          exact ⟨fun k => ⟨⟨ha.1, ha.2, hb.2, hab⟩, by omega, k.1, k.2⟩, fun k => ⟨k.2.2.1, k.2.2.2⟩⟩
    · exact Ev.neg (by rw [dec_f hb]; simp) (bad (fun k => hb ⟨k.1.1, k.1.2.2.1⟩))
  · exact Ev.neg (by rw [dec_f ha]; simp) (bad (fun k => ha ⟨k.1.1, k.1.2.1⟩))
/-- The map holds just these ties. -/
def Holds (s : Int) (L : List T) : Prop := ∀ a b, mpIn a b → mpBit s a b = dec ((⟨a, b⟩ : T) ∈ L)
theorem holds_nil : Holds 0 [] := fun a b _ => by rw [mpBit_zero, dec_f (by simp)]
theorem Holds.add {s : Int} {L : List T} (h : Holds s L) {t : T} (ht : mpIn t.f0 t.f1) : Holds (mpSet s t.f0 t.f1) (L ++ [t]) := fun a b hab => by
  rw [mpBit_set ht hab, h a b hab]
  refine dec_of ?_
  rw [Bool.or_eq_true, dec_iff, decide_eq_true_eq, List.mem_append, List.mem_singleton]
  constructor
  · rintro (h1 | ⟨rfl, rfl⟩)
    · exact Or.inl h1
    · exact Or.inr rfl
  · rintro (h1 | h1)
    · exact Or.inl h1
    · exact Or.inr ⟨by rw [← h1], by rw [← h1]⟩
theorem mpIn_tie {n : Int} {E : List T} (h : OK n E) {a b : Int} (ha : In n a) (hb : In n b) : mpIn (tie a b).f0 (tie a b).f1 := by
  have := h.n8
  unfold In at ha hb
  unfold mpIn tie
  split <;> simp <;> omega
/-- The ties of one way, from one on. -/
theorem ev_FlowOk_l1i {n : Int} {E : List T} (hO : OK n E) {a b : Int} {W : List (List Int)} {w : List Int} (hin : ∀ v ∈ w, In n v) (hl : w.length ≤ 1048576) (x : Nat) (hx : x < 8) {r : Bool} :
    ∀ (d i : Nat) (s : Int) (L : List T), 1 ≤ i → i + d = w.length → Holds s L →
      (¬ (L ++ es (w.drop (i - 1))).Nodup → L.Nodup → r = false) → L.Nodup →
      (∀ s', Holds s' (L ++ es (w.drop (i - 1))) → (L ++ es (w.drop (i - 1))).Nodup → Ev (fun k => impl_FlowOk.l0 k a b W W.length ((x + 1 : Nat) : Int) n E s') r) →
      Ev (fun k => impl_FlowOk.l1 k a b w i W W.length x n E s) r
  | 0, i, s, L, h1, h, hs, _, hL, hnext => by
    refine Ev.succ ?_
    simp only [impl_FlowOk.l1]
    have e : es (w.drop (i - 1)) = [] := by
      have : (w.drop (i - 1)).length = 1 := by rw [List.length_drop]; omega
      obtain ⟨y, hy⟩ := List.length_eq_one_iff.1 this
      rw [hy]; rfl
    rw [e, List.append_nil] at hnext
    refine Ev.neg (by omega) ?_
    rw [w64 (by omega), show (x : Int) + 1 = ((x + 1 : Nat) : Int) by omega]
    exact hnext s hs hL
  | d + 1, i, s, L, h1, h, hs, hbad, hL, hnext => by
    obtain ⟨j, rfl⟩ : ∃ j, i = j + 1 := ⟨i - 1, by omega⟩
    have e : w.drop (j + 1 - 1) = w[j] :: w[j + 1] :: w.drop (j + 1 + 1) := by
      rw [show j + 1 - 1 = j by omega, List.drop_eq_getElem_cons (by omega : j < w.length), List.drop_eq_getElem_cons (by omega : j + 1 < w.length)]
    have e2 : es (w.drop (j + 1 - 1)) = tie w[j] w[j + 1] :: es (w.drop (j + 1 + 1 - 1)) := by
      rw [e, es, show j + 1 + 1 - 1 = j + 1 by omega, List.drop_eq_getElem_cons (by omega : j + 1 < w.length)]
    rw [e2] at hbad hnext
    have hm := mpIn_tie hO (hin w[j] (List.getElem_mem _)) (hin w[j + 1] (List.getElem_mem _))
    refine Ev.succ ?_
    simp only [impl_FlowOk.l1]
    rw [w64 (x := ((j + 1 : Nat) : Int) - 1) (by omega), show ((j + 1 : Nat) : Int) - 1 = (j : Int) by omega]
    refine Ev.pos (by omega) (Ev.pos (by omega) (Ev.pos (by omega) (Ev.pos (by omega) (Ev.bind0 (impl_tie_eq _ _) ?_))))
    rw [rd_getElem w j (by omega), rd_getElem w (j + 1) (by omega)]
    have hh : impl_mapHas.f s (tie w[j] w[j + 1]).f0 (tie w[j] w[j + 1]).f1 = some (dec (tie w[j] w[j + 1] ∈ L), s) := by
      unfold impl_mapHas.f
      rw [if_pos hm, hs _ _ hm]
    refine Ev.bind0 hh ?_
    by_cases ht : tie w[j] w[j + 1] ∈ L
    · refine Ev.pos (dec_t ht) (Ev.some_ (hbad (fun k => ?_) hL).symm)
      rw [List.nodup_append] at k
      exact k.2.2 _ ht _ (by simp) rfl
    · refine Ev.neg (by rw [dec_f ht]; simp) (Ev.bind0 (show impl_mapAdd.f s (tie w[j] w[j + 1]).f0 (tie w[j] w[j + 1]).f1 = some _ from by unfold impl_mapAdd.f; rw [if_pos hm]) ?_)
      rw [w64 (by omega), show ((j + 1 : Nat) : Int) + 1 = ((j + 1 + 1 : Nat) : Int) by omega]
      refine ev_FlowOk_l1i hO hin hl x hx d (j + 1 + 1) _ (L ++ [tie w[j] w[j + 1]]) (by omega) (by omega) (hs.add hm) (fun k _ => hbad (fun k2 => k ?_) hL) ?_ (fun s' h3 h4 => hnext s' ?_ ?_)
      · simpa using k2
      · rw [List.nodup_append]
        refine ⟨hL, by simp, fun y hy z hz e3 => ?_⟩
        rw [List.mem_singleton] at hz
        subst hz; subst e3
        exact ht hy
      · simpa using h3
      · simpa using h4
/-- The ways, from one on. -/
theorem ev_FlowOk_l0i {n : Int} {E : List T} (hO : OK n E) {a b : Int} (W : List (List Int)) (hr : ∀ w ∈ W, w.length ≤ 1048576) (h8 : W.length ≤ 8) :
    ∀ (d x : Nat) (s : Int) (L : List T), x + d = W.length → Holds s L → L.Nodup →
      Ev (fun k => impl_FlowOk.l0 k a b W W.length x n E s) (dec ((∀ w ∈ W.drop x, Leads n E a b w) ∧ (L ++ (W.drop x).flatMap es).Nodup))
  | 0, x, s, L, h, _, hL => by
    refine Ev.succ ?_
    simp only [impl_FlowOk.l0]
    rw [List.drop_of_length_le (by omega)]
    exact Ev.neg (by omega) (Ev.tt (by simpa using hL) (Ev.now _))
  | d + 1, x, s, L, h, hs, hL => by
    have hx : x < W.length := by omega
    refine Ev.succ ?_
    simp only [impl_FlowOk.l0]
    rw [rd_L1_nat W x hx, List.drop_eq_getElem_cons hx]
    have hl := hr _ (List.getElem_mem hx)
    refine Ev.pos (by omega) (Ev.pos (by omega) (Ev.pos (by omega) (Ev.bind (ev_leads n E a b W[x] (by have := hO.length; omega) hl) ?_)))
    by_cases hw : Leads n E a b W[x]
    · refine Ev.pos (dec_t hw) ?_
      have hp := hw.pos
      have ih := fun s' => ev_FlowOk_l0i hO W hr h8 d (x + 1) s' (L ++ es W[x]) (by omega) (a := a) (b := b)
      refine ev_FlowOk_l1i hO hw.2.1.inn hl x (by omega) (W[x].length - 1) 1 s L (by omega) (by omega) hs (fun k _ => dec_f (fun k2 => k ?_)) hL (fun s' h3 h4 => ?_)
      · have := k2.2
        rw [List.flatMap_cons, ← List.append_assoc, List.nodup_append] at this
        simpa using this.1
      · simp only [Nat.sub_self, List.drop_zero] at h3 h4
        refine Ev.cast (ih s' h3 h4) (dec_congr ?_)
        rw [List.flatMap_cons, List.append_assoc, List.forall_mem_cons]
        exact ⟨fun k => ⟨⟨hw, k.1⟩, k.2⟩, fun k => ⟨k.1.2, k.2⟩⟩
    · exact Ev.neg (by rw [dec_f hw]; simp) (Ev.ff (fun k => hw (k.1 _ List.mem_cons_self)) (Ev.now _))
theorem ev_impl_FlowOk (n : Int) (E : List T) (a b : Int) (W : List (List Int)) (hE : E.length ≤ 1048576) (hr : ∀ w ∈ W, w.length ≤ 1048576) : Ev (fun k => impl_FlowOk.f k n E a b W) (dec (FlowOkP n E a b W)) := by
  simp only [impl_FlowOk.f]
  have bad : ¬ FlowOkP n E a b W → Ev (fun k => impl_FlowOk.j0 k a b W true n E) (dec (FlowOkP n E a b W)) := fun hb => by
    refine Ev.succ ?_
    simp only [impl_FlowOk.j0]
    exact Ev.pos (by trivial) (Ev.ff hb (Ev.now _))
  refine Ev.bind (ev_twoKnots n E a b hE) ?_
  by_cases h2 : Two2 n E a b
  · refine Ev.pos (dec_t h2) ?_
    by_cases h8 : (W.length : Int) > 8
    · rw [decide_eq_true h8]
      exact bad (fun k => by have := k.2.1; omega)
    · rw [decide_eq_false h8]
      refine Ev.succ ?_
      simp only [impl_FlowOk.j0]
      refine Ev.neg (by simp) (Ev.bind0 (show impl_mapNew.f = some 0 from rfl) (Ev.cast (ev_FlowOk_l0i h2.1 W hr (by omega) W.length 0 0 [] (by omega) holds_nil List.nodup_nil) (dec_congr ?_)))
      rw [List.drop_zero, List.nil_append]
      exact ⟨fun k => ⟨h2, by omega, k.1, k.2⟩, fun k => ⟨k.2.2.1, k.2.2.2⟩⟩
  · exact Ev.neg (by rw [dec_f h2]; simp) (bad (fun k => h2 k.1))
theorem rd_L1_le {l : List (List Int)} {n : Nat} (h : ∀ r ∈ l, r.length ≤ n) (i : Nat) : (rd_L1 l i).length ≤ n := by
  simp only [rd_L1, Int.toNat_natCast, List.getD_eq_getElem?_getD]
  cases e : l[i]? with
  | none => simp
  | some r => simpa using h r (List.mem_of_getElem? e)
theorem szIntS (l : List Int) (a : Int) (hl : l.length ≤ maxLen) (ha : 0 ≤ a ∧ a ≤ 1048576) : laws_szIntS.f l a = some (if a - (l.length : Int) < 0 then -1 else a - l.length) := by
  unfold maxLen at hl
  unfold laws_szIntS.f
  rw [w64 (by omega)]
  split <;> rfl
theorem ev_szIntSS_loop (l : List (List Int)) (hl : l.length ≤ maxLen) (hr : ∀ r ∈ l, r.length ≤ maxLen) : ∀ (d i : Nat) (a : Int), i + d = l.length → 0 ≤ a ∧ a ≤ 1048576 →
    ∃ s, Ev (fun k => laws_szIntSS.l0 k l a i) s ∧ (¬ s < 0 → 0 ≤ s ∧ s ≤ a ∧ ∀ j, i ≤ j → (l.getD j []).length ≤ 1048576)
  | 0, i, a, h, ha => by
    unfold maxLen at hl
    refine ⟨a, ?_, fun _ => ⟨ha.1, Int.le_refl _, fun j hj => ?_⟩⟩
    · refine Ev.succ ?_
      simp only [laws_szIntSS.l0]
      refine Ev.neg (by omega) ?_
      exact Ev.now _
    · rw [List.getD_eq_getElem?_getD, List.getElem?_eq_none (by omega)]; simp
  | d + 1, i, a, h, ha => by
    have hl' := hl
    unfold maxLen at hl
    have hri : (rd_L1 l i).length ≤ maxLen := rd_L1_le hr i
    have hg : l.getD i [] = rd_L1 l i := by simp [rd_L1]
    by_cases hc : a - ((rd_L1 l i).length : Int) < 0
    · refine ⟨-1, ?_, fun h => absurd h (by omega)⟩
      refine Ev.succ ?_
      simp only [laws_szIntSS.l0]
      refine Ev.pos (by omega) ?_
      refine Ev.pos (by omega) ?_
      refine Ev.bind0 (by rw [szIntS _ a hri ha, if_pos hc]) ?_
      refine Ev.pos (by omega) ?_
      exact Ev.now _
    · obtain ⟨s, hs, hs'⟩ := ev_szIntSS_loop l hl' hr d (i + 1) (a - (rd_L1 l i).length) (by omega) (by omega)
      refine ⟨s, ?_, fun hn => ?_⟩
      · refine Ev.succ ?_
        simp only [laws_szIntSS.l0]
        refine Ev.pos (by omega) ?_
        refine Ev.pos (by omega) ?_
        refine Ev.bind0 (by rw [szIntS _ a hri ha, if_neg hc]) ?_
        refine Ev.neg (by omega) ?_
        rw [w64 (by omega)]
        exact hs
      · obtain ⟨h1, h2, h3⟩ := hs' hn
        refine ⟨h1, by omega, fun j hj => ?_⟩
        by_cases e : j = i
        · subst e; rw [hg]; omega
        · exact h3 j (by omega)
theorem ev_toIntS_loop (l : List Int) (hl : l.length ≤ 1048576) : ∀ (d i : Nat) (acc : List Int), i + d = l.length → acc = l.take i ++ List.replicate d 0 → Ev (fun k => laws_toIntS.l0 k l acc i) l
  | 0, i, acc, h, ha => by
    refine Ev.succ ?_
    simp only [laws_toIntS.l0]
    refine Ev.neg (by omega) ?_
    refine Ev.some_ ?_
    rw [ha, List.replicate_zero, List.append_nil, List.take_of_length_le (by omega)]
  | d + 1, i, acc, h, ha => by
    have hlen : acc.length = l.length := by rw [ha]; simp; omega
    refine Ev.succ ?_
    simp only [laws_toIntS.l0]
    refine Ev.pos (by omega) ?_
    refine Ev.pos (by omega) ?_
    refine Ev.pos (by omega) ?_
    rw [w64 (by omega)]
    refine ev_toIntS_loop l hl d (i + 1) _ (by omega) ?_
    have hi : i < l.length := by omega
    rw [ha, Int.toNat_natCast, rd_nat, List.getD_eq_getElem?_getD, List.getElem?_eq_getElem hi, Option.getD_some, List.take_succ_eq_append_getElem hi, List.set_append_right _ _ (by simp; omega), List.append_assoc]
    congr 1
    simp [List.replicate_succ, show i - min i l.length = 0 by omega]
theorem ev_toIntS (l : List Int) (hl : l.length ≤ 1048576) : Ev (fun k => laws_toIntS.f k l) l := by
  simp only [laws_toIntS.f]
  refine Ev.pos (by omega) ?_
  refine Ev.pos (by omega) ?_
  exact ev_toIntS_loop l hl l.length 0 _ (by omega) (by simp)
theorem ev_toIntSS_loop (l : List (List Int)) (hl : l.length ≤ 1048576) (hr : ∀ r ∈ l, r.length ≤ 1048576) : ∀ (d i : Nat) (acc : List (List Int)), i + d = l.length → acc = l.take i ++ List.replicate d [] → Ev (fun k => laws_toIntSS.l0 k l acc i) l
  | 0, i, acc, h, ha => by
    refine Ev.succ ?_
    simp only [laws_toIntSS.l0]
    refine Ev.neg (by omega) ?_
    refine Ev.some_ ?_
    rw [ha, List.replicate_zero, List.append_nil, List.take_of_length_le (by omega)]
  | d + 1, i, acc, h, ha => by
    have hlen : acc.length = l.length := by rw [ha]; simp; omega
    refine Ev.succ ?_
    simp only [laws_toIntSS.l0]
    refine Ev.pos (by omega) ?_
    refine Ev.pos (by omega) ?_
    refine Ev.bind (ev_toIntS _ (rd_L1_le hr i)) ?_
    refine Ev.pos (by omega) ?_
    rw [w64 (by omega)]
    refine ev_toIntSS_loop l hl hr d (i + 1) _ (by omega) ?_
    have hi : i < l.length := by omega
    have hg : rd_L1 l i = l[i] := by simp [rd_L1, List.getD_eq_getElem?_getD, List.getElem?_eq_getElem hi]
    rw [ha, Int.toNat_natCast, hg, List.take_succ_eq_append_getElem hi, List.set_append_right _ _ (by simp; omega), List.append_assoc]
    congr 1
    simp [List.replicate_succ, show i - min i l.length = 0 by omega]
theorem ev_toIntSS (l : List (List Int)) (hl : l.length ≤ 1048576) (hr : ∀ r ∈ l, r.length ≤ 1048576) : Ev (fun k => laws_toIntSS.f k l) l := by
  simp only [laws_toIntSS.f]
  refine Ev.pos (by omega) ?_
  refine Ev.pos (by omega) ?_
  exact ev_toIntSS_loop l hl hr l.length 0 _ (by omega) (by simp)
theorem ev_eqIntS_loop (l : List Int) (hl : l.length ≤ 1048576) : ∀ (d i : Nat), i + d = l.length → Ev (fun k => laws_eqIntS.l0 k l l i) true
  | 0, i, h => by
    refine Ev.succ ?_
    simp only [laws_eqIntS.l0]
    refine Ev.neg (by omega) ?_
    exact Ev.now _
  | d + 1, i, h => by
    refine Ev.succ ?_
    simp only [laws_eqIntS.l0]
    refine Ev.pos (by omega) ?_
    refine Ev.pos (by omega) ?_
    refine Ev.pos (by omega) ?_
    refine Ev.pos (by first | rfl | trivial) ?_
    rw [w64 (by omega)]
    exact ev_eqIntS_loop l hl d (i + 1) (by omega)
theorem ev_eqIntS (l : List Int) (hl : l.length ≤ 1048576) : Ev (fun k => laws_eqIntS.f k l l) true := by
  simp only [laws_eqIntS.f]
  refine Ev.pos (by first | rfl | trivial) ?_
  exact ev_eqIntS_loop l hl l.length 0 (by omega)
theorem ev_eqIntSS_loop (l : List (List Int)) (hl : l.length ≤ 1048576) (hr : ∀ r ∈ l, r.length ≤ 1048576) : ∀ (d i : Nat), i + d = l.length → Ev (fun k => laws_eqIntSS.l0 k l l i) true
  | 0, i, h => by
    refine Ev.succ ?_
    simp only [laws_eqIntSS.l0]
    refine Ev.neg (by omega) ?_
    exact Ev.now _
  | d + 1, i, h => by
    refine Ev.succ ?_
    simp only [laws_eqIntSS.l0]
    refine Ev.pos (by omega) ?_
    refine Ev.pos (by omega) ?_
    refine Ev.pos (by omega) ?_
    refine Ev.bind (ev_eqIntS _ (rd_L1_le hr i)) ?_
    refine Ev.pos (by first | rfl | trivial) ?_
    rw [w64 (by omega)]
    exact ev_eqIntSS_loop l hl hr d (i + 1) (by omega)
theorem ev_eqIntSS (l : List (List Int)) (hl : l.length ≤ 1048576) (hr : ∀ r ∈ l, r.length ≤ 1048576) : Ev (fun k => laws_eqIntSS.f k l l) true := by
  simp only [laws_eqIntSS.f]
  refine Ev.pos (by first | rfl | trivial) ?_
  exact ev_eqIntSS_loop l hl hr l.length 0 (by omega)
end Go.Proofs.Ytdlnnjgjfngccaa.Th
namespace Go.Proofs.Ytdlnnjgjfngccaa.Th
open Go.RowKit Go.Proofs.YtdlnnjgjfngccaaW.PrintWords Go.Proofs.YtdlnnjgjfngccaaW.PrintMore Go.Proofs.Ytdlnnjgjfngccaa.F
abbrev LT := S96
def conv (l : List LT) : List T := l.map fun t => ⟨t.f0, t.f1⟩
theorem conv_length (l : List LT) : (conv l).length = l.length := by simp [conv]
theorem conv_wf (l : List LT) (h : l.length ≤ maxLen ∧ ∀ x ∈ l, (Lit.int .i64 x.f0).wf = true ∧ (Lit.int .i64 x.f1).wf = true) : WF (conv l) := by
  intro t ht
  obtain ⟨s, hs, rfl⟩ := List.mem_map.1 ht
  exact ⟨wf_i64 (h.2 s hs).1, wf_i64 (h.2 s hs).2⟩
theorem rd_LT_nat (E : List LT) (i : Nat) (h : i < E.length) : rd_T96 E i = E[i] := by
  simp [rd_T96, List.getD_eq_getElem?_getD, List.getElem?_eq_getElem h]
theorem szNet (n : Int) (l : List LT) (hl : l.length ≤ maxLen) : laws_szNet.f n l 1048576 = some (if (l.length : Int) ≤ 1048576 then (1048576 : Int) - (l.length : Int) else (-1 : Int)) := by
  unfold maxLen at hl
  unfold laws_szNet.f laws_szTieS.f
  rw [w64 (by omega)]
  by_cases h : (l.length : Int) ≤ 1048576
  · rw [if_neg (by omega), if_pos h]
    simp only [Option.bind_some]
    rw [if_neg (by omega)]
  · rw [if_pos (by omega), if_neg h]
    simp only [Option.bind_some]
    rw [if_pos (by omega)]
theorem ev_toTieS_loop (l : List LT) (hl : l.length ≤ 1048576) : ∀ (d i : Nat) (acc : List T), i + d = l.length → acc = (conv l).take i ++ List.replicate d z73 → Ev (fun k => laws_toTieS.l0 k l acc i) (conv l)
  | 0, i, acc, h, ha => by
    refine Ev.succ ?_
    simp only [laws_toTieS.l0]
    refine Ev.neg (by omega) (Ev.some_ ?_)
    rw [ha, List.replicate_zero, List.append_nil, List.take_of_length_le (by rw [conv_length]; omega)]
  | d + 1, i, acc, h, ha => by
    have hlen : acc.length = l.length := by rw [ha]; simp [conv_length]; omega
    have hi : i < l.length := by omega
    have hci : i < (conv l).length := by rw [conv_length]; exact hi
    refine Ev.succ ?_
    simp only [laws_toTieS.l0, rd_LT_nat l i hi]
    refine Ev.pos (by omega) (Ev.pos (by omega) (Ev.bind0 rfl (Ev.pos (by omega) ?_)))
    rw [w64 (by omega)]
    refine ev_toTieS_loop l hl d (i + 1) _ (by omega) ?_
    rw [ha, Int.toNat_natCast, List.take_succ_eq_append_getElem hci, List.set_append_right _ _ (by simp; omega), List.append_assoc]
    congr 1
    simp [List.replicate_succ, conv, show i - min i l.length = 0 by omega]
theorem ev_toTieS (l : List LT) (hl : l.length ≤ 1048576) : Ev (fun k => laws_toTieS.f k l) (conv l) := by
  simp only [laws_toTieS.f]
  refine Ev.pos (by omega) (Ev.pos (by omega) ?_)
  exact ev_toTieS_loop l hl l.length 0 _ (by omega) (by simp)
theorem ev_toNet (n : Int) (l : List LT) (hl : l.length ≤ 1048576) : Ev (fun k => laws_toNet.f k n l) (n, conv l) := by
  simp only [laws_toNet.f]
  exact Ev.bind (ev_toTieS l hl) (Ev.now _)
theorem ev_eqTieS_loop (l : List T) (hl : l.length ≤ 1048576) : ∀ (d i : Nat), i + d = l.length → Ev (fun k => laws_eqTieS.l0 k l l i) true
  | 0, i, h => by
    refine Ev.succ ?_
    simp only [laws_eqTieS.l0]
    exact Ev.neg (by omega) (Ev.now _)
  | d + 1, i, h => by
    refine Ev.succ ?_
    simp only [laws_eqTieS.l0]
    refine Ev.pos (by omega) (Ev.pos (by omega) (Ev.pos (by omega) (Ev.bind0 (a := true) (by simp [laws_eqTie.f]) (Ev.pos (by first | rfl | trivial) ?_))))
    rw [w64 (by omega)]
    exact ev_eqTieS_loop l hl d (i + 1) (by omega)
theorem ev_eqTieS (l : List T) (hl : l.length ≤ 1048576) : Ev (fun k => laws_eqTieS.f k l l) true := by
  simp only [laws_eqTieS.f]
  exact Ev.pos (by first | rfl | trivial) (ev_eqTieS_loop l hl l.length 0 (by omega))
theorem ev_eqNet (n : Int) (l : List T) (hl : l.length ≤ 1048576) : Ev (fun k => laws_eqNet.f k n l n l) true := by
  simp only [laws_eqNet.f]
  exact Ev.pos (by first | rfl | trivial) (Ev.bind (ev_eqTieS l hl) (Ev.pos (by first | rfl | trivial) (Ev.now _)))
end Go.Proofs.Ytdlnnjgjfngccaa.Th
namespace Go.Proofs.Ytdlnnjgjfngccaa.Pure
open Go.RowKit Go.Proofs.YtdlnnjgjfngccaaW.PrintWords Go.Proofs.YtdlnnjgjfngccaaW.PrintMore Go.Proofs.Ytdlnnjgjfngccaa.F Go.Proofs.Ytdlnnjgjfngccaa.Th
theorem szIntSS_le (l : List (List Int)) (h : l.length ≤ maxLen ∧ ∀ r ∈ l, r.length ≤ maxLen ∧ ∀ x ∈ r, (Lit.int .i64 x).wf = true) (a : Int) (ha : 0 ≤ a ∧ a ≤ 1048576) :
    ∃ s, Ev (fun k => laws_szIntSS.f k l a) s ∧ (¬ s < 0 → l.length ≤ 1048576 ∧ ∀ r ∈ l, r.length ≤ 1048576) := by
  have hl := h.1
  have hl' := hl
  unfold maxLen at hl'
  simp only [laws_szIntSS.f]
  rw [w64 (by omega)]
  by_cases hc : a - (l.length : Int) < 0
  · exact ⟨-1, Ev.pos hc (Ev.now _), fun h => absurd h (by omega)⟩
  · obtain ⟨s, hs, hs'⟩ := ev_szIntSS_loop l hl (fun r hr => (h.2 r hr).1) l.length 0 (a - l.length) (by omega) (by omega)
    refine ⟨s, Ev.neg hc hs, fun hn => ⟨by omega, fun r hr => ?_⟩⟩
    obtain ⟨i, hi, rfl⟩ := List.mem_iff_getElem.1 hr
    have := (hs' hn).2.2 i (Nat.zero_le _)
    rwa [List.getD_eq_getElem?_getD, List.getElem?_eq_getElem hi] at this
theorem FnExactFlowOk : laws_FnExactFlowOk.Pure := by
  intro n l a b W hn hl ha hb hW
  refine Ev.rounds (g := fun k => laws_FnExactFlowOk.f k n l a b W) ?_
  simp only [laws_FnExactFlowOk.f]
  refine Ev.bind0 (szNet n l hl.1) ?_
  by_cases h3 : (l.length : Int) ≤ 1048576
  · rw [if_pos h3]
    have c := conv_length l
    have w := conv_wf l hl
    obtain ⟨s, hs, hs'⟩ := szIntSS_le W hW (1048576 - (l.length : Int)) (by omega)
    refine Ev.neg (by omega) (Ev.bind hs ?_)
    by_cases h4 : s < 0
    · exact Ev.pos h4 (Ev.now _)
    have h5 := hs' h4
    refine Ev.neg h4 (Ev.bind (ev_toNet n l (by omega)) (Ev.bind (ev_toIntSS W h5.1 h5.2) ?_))
    refine Ev.bind (ev_spec_FlowOk n (conv l) a b W (by omega) w h5.1 h5.2) (Ev.bind (ev_toNet n l (by omega)) (Ev.bind (ev_toIntSS W h5.1 h5.2) ?_))
    refine Ev.bind (ev_impl_FlowOk n (conv l) a b W (by omega) h5.2) (Ev.neg (by simp) ?_)
    refine Ev.bind (ev_toNet n l (by omega)) (Ev.bind (ev_eqNet n (conv l) (by omega)) (Ev.pos (by first | rfl | trivial) ?_))
    exact Ev.bind (ev_toIntSS W h5.1 h5.2) (Ev.bind (ev_eqIntSS W h5.1 h5.2) (Ev.pos (by first | rfl | trivial) (Ev.now _)))
  · rw [if_neg h3]
    exact Ev.pos (by omega) (Ev.now _)
end Go.Proofs.Ytdlnnjgjfngccaa.Pure
