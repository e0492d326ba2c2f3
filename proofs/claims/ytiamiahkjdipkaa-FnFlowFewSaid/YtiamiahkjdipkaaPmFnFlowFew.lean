/-
P67: no more ways leave a knot than it has ties; two ways that are apart have no tie in common.
-/
import Derived.Test.YtiamiahkjdipkaaWs
import Derived.WalkKit
import Derived.ProofKit
import Derived.Deep.Slices
import Derived.ChangeSame
import Derived.Test.YtiamiahkjdipkaaF0
import Derived.Test.YtiamiahkjdipkaaF3
import Derived.Test.YtiamiahkjdipkaaF9
import Derived.Test.YtiamiahkjdipkaaF4
import Derived.Test.YtiamiahkjdipkaaF26
import Derived.Test.YtiamiahkjdipkaaF14
import Derived.Test.YtiamiahkjdipkaaXAll
import Derived.Test.YtiamiahkjdipkaaF27
import Derived.Test.YtiamiahkjdipkaaF35
import Derived.Test.YtiamiahkjdipkaaXFlowI
import Derived.Test.YtiamiahkjdipkaaXFlowS
import Derived.Test.YtiamiahkjdipkaaF33
import Derived.Test.YtiamiahkjdipkaaF7
import Derived.Test.YtiamiahkjdipkaaF6
import Derived.Test.YtiamiahkjdipkaaF8
import Derived.Test.YtiamiahkjdipkaaF5
import Derived.Test.YtiamiahkjdipkaaF2
import Derived.Test.YtiamiahkjdipkaaF37
namespace Go.Proofs.Ytiamiahkjdipkaa.Op
open Go.ChangeShapes Go.WideShapes Go.Deep Go.Proofs.YtiamiahkjdipkaaW.PrintWords
/-- Whatever reads as data of type t is told by the kind d, and I holds of it. -/
def Opens {α : Type} (P : Program) (t : TypeId) (d : Kd α) (I : α → Prop) : Prop :=
  ∀ {H : Type} (enc : TypeId × Value → H) (W : World) (base : Nat) (held : Bool) (fuel : Nat) (cs : List Value) (x : DataW H × List MemPlace),
    DataW.trod enc P W base (fun _ => true) held fuel t cs = some x → ∃ a, I a ∧ d.K W a cs
theorem opens_int {P : Program} {t : TypeId} {k : IntKind} (ht : P.underlying t = some (.int k)) : Opens P t (Kd.int k) (fun x => (Lit.int k x).wf = true) := by
  intro H enc W base held fuel cs x h
  obtain ⟨n, rfl, _, hw⟩ := DataW.trod_int ht h
  exact ⟨n, hw, rfl⟩
theorem opens_slice {α : Type} [Inhabited α] {P : Program} {t e : TypeId} {d : Kd α} {I : α → Prop} (ht : P.underlying t = some (.slice e)) (hC : P.cellsOf e = d.sz) (h : Opens P e d I) :
    Opens P t (Kd.slice e d) (fun l => l.length ≤ maxLen ∧ ∀ x ∈ l, I x) := by
  intro H enc W base held fuel cs x hx
  rcases open_slice ht hx with ⟨rfl, _⟩ | ⟨a, len, cap, m, n, D, Pl, rfl, hb, hl, hm, hmm, _, hi⟩
  · exact ⟨[], ⟨Nat.zero_le _, fun _ h => by cases h⟩, none, 0, rfl, Nat.le_refl _, rfl, Nat.zero_le _, fun h => absurd h (Nat.lt_irrefl 0)⟩
  · simp only [if_true] at hmm
    rw [hmm] at hi
    clear hmm
    have each : ∀ i, i < len → ∃ y : α, I y ∧ ∃ cs', cs'.length = d.sz ∧ d.K W y cs' ∧ ∀ j u, cs'[j]? = some u → W.cell? (a.add (i * d.sz + j)) = some u := by
      intro i hi'
      obtain ⟨cs', hc, hd⟩ := hi i (by omega)
      obtain ⟨y, iy, ky⟩ := h enc W base held n _ _ hd
      rw [hC] at hc
      obtain ⟨_, hcl, hat⟩ := World.cells?_some hc
      refine ⟨y, iy, cs', hcl, ky, fun j u hu => ?_⟩
      have hj := (List.getElem?_eq_some_iff.1 hu).1
      rw [← Go.Deep.add_add, hat j (by omega), hu]
    obtain ⟨f, hf⟩ := choose_lt each
    refine ⟨(List.range len).map f, ⟨by simpa using Nat.le_trans hl hm, ?_⟩, some a, cap, ?_, ?_, rfl, ?_, ?_⟩
    · intro x hx
      obtain ⟨i, hi', rfl⟩ := List.mem_map.1 hx
      exact (hf i (List.mem_range.1 hi')).1
    · simp
    · simpa using hl
    · have := Nat.le_trans hl hm
      unfold maxLen at this
      simpa using this
    · intro _
      refine ⟨a, rfl, fun j p hj => ?_⟩
      obtain ⟨hj', rfl⟩ := List.getElem?_eq_some_iff.1 hj
      simp only [List.getElem_map, List.getElem_range]
      obtain ⟨_, cs', h1, h2, h3⟩ := hf j (by simpa using hj')
      exact ⟨cs', h1, h2, h3⟩
/-- A slice as an argument. -/
theorem Opens.asSlice {H : Type} {enc : TypeId × Value → H} {α : Type} {P : Program} {t e : TypeId} {d : Kd α} {I : List α → Prop} (h : Opens P t (Kd.slice e d) I) {W : World} {base : Nat} {held : Bool} {A : Option Addr} {n c : Nat} {x : DataW H} {ps : List MemPlace}
    (hx : DataW.Trod enc P W base (fun _ => true) held t (.slice A n c) x ps) : ∃ l, n = l.length ∧ I l ∧ l.length ≤ c ∧ d.C W A l.length l := by
  obtain ⟨fuel, hf⟩ := hx
  obtain ⟨l, il, A', c', hcs, hl, hC⟩ := h enc W base held fuel _ _ hf
  simp only [Value.cells, List.cons.injEq, and_true, Value.slice.injEq] at hcs
  obtain ⟨rfl, rfl, rfl⟩ := hcs
  exact ⟨l, rfl, il, hl, hC⟩
end Go.Proofs.Ytiamiahkjdipkaa.Op
namespace Go.Proofs.Ytiamiahkjdipkaa.Th
open Go.RowKit Go.Proofs.YtiamiahkjdipkaaW.PrintWords Go.Proofs.YtiamiahkjdipkaaW.PrintLast Go.Proofs.YtiamiahkjdipkaaW.PrintMore Go.Proofs.Ytiamiahkjdipkaa.F
theorem w64 {x : Int} (h : -9223372036854775808 ≤ x ∧ x ≤ 9223372036854775807) : wrap64 x = x := by unfold wrap64; omega
theorem wf_u8 {x : Int} (h : (Lit.int .u8 x).wf = true) : 0 ≤ x ∧ x ≤ 255 := by
  simp only [Lit.wf, Bool.and_eq_true, decide_eq_true_eq] at h
  exact h
theorem Ev.succ {α : Type} {g : Nat → Option α} {r : α} (h : Ev (fun k => g (k + 1)) r) : Ev g r := Ev.step (fun _ => rfl) h
theorem Ev.some_ {α : Type} {r s : α} (h : s = r) : Ev (fun _ => some s) r := by subst h; exact Ev.now _
theorem Ev.pos {α : Type} {c : Prop} [Decidable c] {a b : Nat → Option α} {r : α} (hc : c) (h : Ev a r) : Ev (fun k => if c then a k else b k) r := Ev.congr (fun _ => if_pos hc) h
theorem Ev.neg {α : Type} {c : Prop} [Decidable c] {a b : Nat → Option α} {r : α} (hc : ¬ c) (h : Ev b r) : Ev (fun k => if c then a k else b k) r := Ev.congr (fun _ => if_neg hc) h
/-- A callee without rounds. -/
theorem Ev.bind0 {α β : Type} {o : Option α} {a : α} {f : Nat → α → Option β} {r : β} (h : o = some a) (k : Ev (fun n => f n a) r) : Ev (fun n => o.bind (f n)) r := by subst h; exact k
theorem Ev.unique {α : Type} {g : Nat → Option α} {r s : α} (h : Ev g r) (h' : Ev g s) : r = s := by
  obtain ⟨K, h⟩ := h
  obtain ⟨K', h'⟩ := h'
  have := (h (max K K') (by omega)).symm.trans (h' (max K K') (by omega))
  exact Option.some.inj this
theorem Ev.cast {α : Type} {g : Nat → Option α} {r s : α} (h : Ev g r) (e : r = s) : Ev g s := e ▸ h
/-- A proposition as a Bool. -/
noncomputable def dec (p : Prop) : Bool := @decide p (Classical.propDecidable p)
theorem dec_iff {p : Prop} : dec p = true ↔ p := by unfold dec; exact @decide_eq_true_iff p (Classical.propDecidable p)
theorem dec_t {p : Prop} (h : p) : dec p = true := dec_iff.2 h
theorem dec_f {p : Prop} (h : ¬ p) : dec p = false := by
  cases e : dec p with
  | false => rfl
  | true => exact absurd (dec_iff.1 e) h
theorem dec_of {b : Bool} {p : Prop} (h : b = true ↔ p) : b = dec p := by rw [Bool.eq_iff_iff, h, dec_iff]
theorem dec_congr {p q : Prop} (h : p ↔ q) : dec p = dec q := by rw [Bool.eq_iff_iff, dec_iff, dec_iff, h]
theorem Ev.tt {g : Nat → Option Bool} {p : Prop} (hp : p) (h : Ev g true) : Ev g (dec p) := by rw [dec_t hp]; exact h
theorem Ev.ff {g : Nat → Option Bool} {p : Prop} (hp : ¬ p) (h : Ev g false) : Ev g (dec p) := by rw [dec_f hp]; exact h
theorem Ev.dec {g : Nat → Option Bool} {p : Prop} {b : Bool} (h : Ev g b) (hb : b = true ↔ p) : Ev g (dec p) := Ev.cast h (dec_of hb)
theorem rd_nat (l : List Int) (i : Nat) : rd l (i : Int) = l.getD i 0 := by simp [rd]
end Go.Proofs.Ytiamiahkjdipkaa.Th
namespace Go.Proofs.Ytiamiahkjdipkaa.Th
open Go.RowKit Go.Proofs.YtiamiahkjdipkaaW.PrintWords Go.Proofs.YtiamiahkjdipkaaW.PrintMore Go.Proofs.Ytiamiahkjdipkaa.F
abbrev T := S35
theorem T.ext {s t : T} (h0 : s.f0 = t.f0) (h1 : s.f1 = t.f1) : s = t := by cases s; cases t; simp_all
instance : DecidableEq T := fun a b => decidable_of_iff (a.f0 = b.f0 ∧ a.f1 = b.f1) ⟨fun h => T.ext h.1 h.2, fun h => by subst h; exact ⟨rfl, rfl⟩⟩
instance : Inhabited T := ⟨⟨0, 0⟩⟩
/-- The order of ties. -/
def lt (s t : T) : Prop := s.f0 < t.f0 ∨ s.f0 = t.f0 ∧ s.f1 < t.f1
instance (s t : T) : Decidable (lt s t) := inferInstanceAs (Decidable (_ ∨ _))
theorem lt_irrefl (s : T) : ¬ lt s s := by unfold lt; omega
theorem lt_trans {s t u : T} (h : lt s t) (k : lt t u) : lt s u := by unfold lt at *; omega
theorem lt_tri (s t : T) : lt s t ∨ s = t ∨ lt t s := by
  by_cases h : s.f0 = t.f0 <;> by_cases k : s.f1 = t.f1
  · exact Or.inr (Or.inl (T.ext h k))
  · unfold lt; omega
  · unfold lt; omega
  · unfold lt; omega
/-- Strictly ascending. -/
def Asc (E : List T) : Prop := E.Pairwise lt
/-- Neighbours ascend. -/
def AscN : List T → Bool
  | [] => true
  | [_] => true
  | s :: t :: r => decide (lt s t) && AscN (t :: r)
theorem ascN_iff : ∀ E : List T, AscN E = true ↔ Asc E
  | [] => by simp [AscN, Asc]
  | [_] => by simp [AscN, Asc]
  | s :: t :: r => by
    have ih := ascN_iff (t :: r)
    simp only [AscN, Bool.and_eq_true, decide_eq_true_eq, ih, Asc, List.pairwise_cons]
    constructor
    · rintro ⟨h, k, m⟩
      refine ⟨fun u hu => ?_, k, m⟩
      rcases List.mem_cons.1 hu with rfl | hu
      · exact h
      · exact lt_trans h (k u hu)
    · rintro ⟨h, k⟩
      exact ⟨h t (by simp), k⟩
/-- A valid net of n knots. -/
structure OK (n : Int) (E : List T) : Prop where
  n0 : 0 ≤ n
  n8 : n ≤ 8
  tie : ∀ t ∈ E, 0 ≤ t.f0 ∧ t.f0 < t.f1 ∧ t.f1 < n
  asc : Asc E
theorem rd_T_nat (E : List T) (i : Nat) (h : i < E.length) : rd_T35 E i = E[i] := by
  simp [rd_T35, List.getD_eq_getElem?_getD, List.getElem?_eq_getElem h]
/-- How many ties there can be. -/
theorem asc_length (E : List T) (h : Asc E) : ∀ m : Nat, (∀ t ∈ E, 0 ≤ t.f0 * 8 + t.f1 ∧ t.f1 < 8 ∧ 0 ≤ t.f1 ∧ t.f0 * 8 + t.f1 < m) → E.length ≤ m := by
  -- the numbers 8 a + b ascend
  have key : ∀ (E : List T), Asc E → ∀ lo m : Int, lo ≤ m → (∀ t ∈ E, lo ≤ t.f0 * 8 + t.f1 ∧ t.f1 < 8 ∧ 0 ≤ t.f1 ∧ t.f0 * 8 + t.f1 < m) → (E.length : Int) ≤ m - lo := by
    intro E
    induction E with
    | nil => intro _ lo m h _; simp; omega
    | cons s r ih =>
      intro ha lo m hlm hb
      have hs := hb s (by simp)
      have := ih (List.Pairwise.of_cons ha) (s.f0 * 8 + s.f1 + 1) m (by omega) (fun t ht => by
        have h1 := (List.pairwise_cons.1 ha).1 t ht
        have h2 := hb t (by simp [ht])
        unfold lt at h1
        omega)
      simp only [List.length_cons]
      omega
  intro m hb
  have := key E h 0 m (by omega) (fun t ht => by have := hb t ht; omega)
  omega
theorem OK.length {n : Int} {E : List T} (h : OK n E) : E.length ≤ 64 := by
  refine asc_length E h.asc 64 (fun t ht => ?_)
  have := h.tie t ht
  have := h.n8
  omega
theorem l6In (a b c : Int) : spec_l6In.f a b c = some (decide (b ≤ a ∧ a ≤ c)) := by
  unfold spec_l6In.f
  by_cases h : a ≥ b
  · rw [if_pos h]; congr 1; exact decide_eq_decide.2 (by omega)
  · rw [if_neg h]; congr 1; symm; exact decide_eq_false (by omega)
theorem l1Less (s t : T) : spec_l1Less.f s.f0 s.f1 t.f0 t.f1 = some (decide (lt s t)) := by
  unfold spec_l1Less.f lt
  by_cases h : s.f0 < t.f0
  · rw [if_pos h]; congr 1; symm; exact decide_eq_true (by omega)
  · rw [if_neg h]
    by_cases k : s.f0 = t.f0
    · rw [if_pos k]; congr 1; exact decide_eq_decide.2 (by omega)
    · rw [if_neg k]; congr 1; symm; exact decide_eq_false (by omega)
/-- What a round asks of the tie at i. -/
def okAt (n : Int) (E : List T) (i : Nat) : Bool :=
  match E[i]? with
  | none => true
  | some t => decide (0 ≤ t.f0 ∧ t.f0 ≤ n - 1) && decide (t.f0 + 1 ≤ t.f1 ∧ t.f1 ≤ n - 1) && (match i with | 0 => true | j + 1 => match E[j]? with | none => true | some s => decide (lt s t))
theorem ev_spec_NetOk_loop (n : Int) (E : List T) (hn : 0 ≤ n ∧ n ≤ 8) (hE : E.length ≤ 64) (hw : ∀ t ∈ E, (-9223372036854775808 ≤ t.f0 ∧ t.f0 ≤ 9223372036854775807)) :
    ∀ (d i : Nat), i + d = E.length → Ev (fun k => spec_NetOk.l0 k i n E) ((List.range' i d).all (okAt n E))
  | 0, i, h => by
    refine Ev.succ ?_
    simp only [spec_NetOk.l0]
    refine Ev.neg (by omega) ?_
    exact Ev.some_ (by simp)
  | d + 1, i, h => by
    have hi : i < E.length := by omega
    have hE' : E[i]? = some E[i] := List.getElem?_eq_getElem hi
    refine Ev.succ ?_
    simp only [spec_NetOk.l0, rd_T_nat E i hi]
    refine Ev.pos (by omega) (Ev.pos (by omega) ?_)
    rw [w64 (x := n - 1) (by omega)]
    refine Ev.bind0 (l6In _ _ _) ?_
    simp only [List.range'_succ, List.all_cons]
    by_cases h1 : 0 ≤ E[i].f0 ∧ E[i].f0 ≤ n - 1
    · refine Ev.pos (decide_eq_true h1) ?_
      have h2 := hw E[i] (List.getElem_mem hi)
      rw [w64 (x := E[i].f0 + 1) (by omega)]
      refine Ev.bind0 (l6In _ _ _) ?_
      by_cases h3 : E[i].f0 + 1 ≤ E[i].f1 ∧ E[i].f1 ≤ n - 1
      · refine Ev.pos (decide_eq_true h3) ?_
        have hrec := ev_spec_NetOk_loop n E hn hE hw d (i + 1) (by omega)
        cases i with
        | zero =>
          refine Ev.neg (by omega) ?_
          rw [w64 (by omega)]
          refine Ev.cast hrec ?_
          simp [okAt, hE', h1, h3]
        | succ j =>
          refine Ev.pos (by omega) ?_
          have hj : wrap64 (((j + 1 : Nat) : Int) - 1) = (j : Int) := by rw [w64 (by omega)]; omega
          rw [hj]
          refine Ev.pos (by omega) (Ev.pos (by omega) ?_)
          rw [rd_T_nat E j (by omega)]
          refine Ev.bind0 (l1Less _ _) ?_
          have hEj : E[j]? = some (E[j]'(by omega)) := List.getElem?_eq_getElem (by omega)
          by_cases h4 : lt (E[j]'(by omega)) E[j + 1]
          · refine Ev.pos (decide_eq_true h4) ?_
            rw [w64 (by omega)]
            refine Ev.cast hrec ?_
            simp [okAt, hE', hEj, h1, h3, h4]
          · refine Ev.neg (by simp [h4]) ?_
            exact Ev.some_ (by simp [okAt, hE', hEj, h4])
      · refine Ev.neg (by simp [h3]) ?_
        refine Ev.some_ ?_
        simp only [okAt, hE', decide_eq_false h3, Bool.and_false, Bool.false_and]
    · refine Ev.neg (by simp only [decide_eq_true_eq]; exact h1) ?_
      refine Ev.some_ ?_
      simp only [okAt, hE', decide_eq_false h1, Bool.false_and]
theorem okAt_iff (n : Int) (E : List T) (hn : 0 ≤ n ∧ n ≤ 8) : (List.range' 0 E.length).all (okAt n E) = true ↔ OK n E := by
  rw [List.all_eq_true]
  have hr : ∀ i, i ∈ List.range' 0 E.length ↔ i < E.length := fun i => by simp [List.mem_range']
  constructor
  · intro h
    refine ⟨hn.1, hn.2, fun t ht => ?_, ?_⟩
    · obtain ⟨i, hi, rfl⟩ := List.mem_iff_getElem.1 ht
      have := h i ((hr i).2 hi)
      simp only [okAt, List.getElem?_eq_getElem hi, Bool.and_eq_true, decide_eq_true_eq] at this
      omega
    · refine List.pairwise_iff_getElem.2 ?_
      -- neighbours ascend, so all do
      have nb : ∀ j, (hj : j + 1 < E.length) → lt (E[j]'(by omega)) E[j + 1] := fun j hj => by
        have := h (j + 1) ((hr _).2 hj)
        simp only [okAt, List.getElem?_eq_getElem hj, List.getElem?_eq_getElem (show j < E.length by omega), Bool.and_eq_true, decide_eq_true_eq] at this
        exact this.2
      intro i j hi hj hij
      induction j with
      | zero => omega
      | succ j ih =>
        by_cases e : i = j
        · subst e; exact nb i hj
        · exact lt_trans (ih (by omega) (by omega)) (nb j hj)
  · intro h i hi
    rw [hr] at hi
    have h1 := h.tie E[i] (List.getElem_mem hi)
    simp only [okAt, List.getElem?_eq_getElem hi, Bool.and_eq_true, decide_eq_true_eq]
    refine ⟨⟨by omega, by omega⟩, ?_⟩
    cases i with
    | zero => rfl
    | succ j =>
      simp only [List.getElem?_eq_getElem (show j < E.length by omega), decide_eq_true_eq]
      exact List.pairwise_iff_getElem.1 h.asc j (j + 1) (by omega) hi (by omega)
/-- Numbers that a machine's word holds. -/
def WF (E : List T) : Prop := ∀ t ∈ E, (-9223372036854775808 ≤ t.f0 ∧ t.f0 ≤ 9223372036854775807) ∧ (-9223372036854775808 ≤ t.f1 ∧ t.f1 ≤ 9223372036854775807)
theorem OK.wf {n : Int} {E : List T} (h : OK n E) : WF E := fun t ht => by have := h.tie t ht; have := h.n8; omega
theorem ev_spec_NetOk (n : Int) (E : List T) (hE : E.length ≤ 1048576) (hw : WF E) : Ev (fun k => spec_NetOk.f k n E) (dec (OK n E)) := by
  simp only [spec_NetOk.f]
  refine Ev.bind0 (l6In _ _ _) ?_
  by_cases hn : 0 ≤ n ∧ n ≤ 8
  · refine Ev.pos (decide_eq_true hn) ?_
    refine Ev.succ ?_
    simp only [spec_NetOk.j0]
    by_cases hl : (E.length : Int) > 64
    · refine Ev.pos (decide_eq_true hl) ?_
      exact Ev.ff (fun h => by have := h.length; omega) (Ev.now _)
    · refine Ev.neg (by simp only [decide_eq_true_eq]; exact hl) ?_
      exact Ev.dec (ev_spec_NetOk_loop n E hn (by omega) (fun t ht => (hw t ht).1) E.length 0 (by omega)) (okAt_iff n E hn)
  · refine Ev.neg (by simp only [decide_eq_true_eq]; exact hn) ?_
    refine Ev.succ ?_
    simp only [spec_NetOk.j0]
    refine Ev.pos trivial ?_
    exact Ev.ff (fun h => hn ⟨h.n0, h.n8⟩) (Ev.now _)
theorem compare (a b : Int) : cmp_Compare_int.f a b = some (if a < b then -1 else if a > b then 1 else 0) := by
  unfold cmp_Compare_int.f cmp_isNaN_int.f
  simp only [bne_self_eq_false, Option.bind_some]
  rw [if_neg (by decide), if_neg (by decide)]
  split
  · rfl
  · split <;> rfl
theorem ev_or2 (x y : Int) : Ev (fun k => cmp_Or_int.f k [x, y]) (if x = 0 then y else x) := by
  simp only [cmp_Or_int.f]
  refine Ev.succ ?_
  simp only [cmp_Or_int.l0, List.length_cons, List.length_nil]
  refine Ev.pos (by decide) (Ev.pos (by decide) (Ev.pos (by simp) ?_))
  have r0 : rd [x, y] 0 = x := rfl
  rw [r0]
  by_cases h : x = 0
  · refine Ev.pos h ?_
    rw [if_pos h]
    refine Ev.succ ?_
    simp only [cmp_Or_int.l0]
    rw [show wrap64 (0 + 1) = 1 from by unfold wrap64; omega]
    refine Ev.pos (by decide) (Ev.pos (by decide) (Ev.pos (by simp) ?_))
    have r1 : rd [x, y] 1 = y := rfl
    rw [r1]
    by_cases k : y = 0
    · refine Ev.pos k ?_
      refine Ev.succ ?_
      simp only [cmp_Or_int.l0]
      rw [show wrap64 (1 + 1) = 2 from by unfold wrap64; omega]
      refine Ev.neg (by decide) ?_
      exact Ev.some_ k.symm
    · exact Ev.neg k (Ev.now _)
  · refine Ev.neg h ?_
    rw [if_neg h]
    exact Ev.now _
theorem ev_tieOrder (s t : T) : ∃ c : Int, Ev (fun k => impl_tieOrder.f k s.f0 s.f1 t.f0 t.f1) c ∧ (c < 0 ↔ lt s t) := by
  refine ⟨if (if s.f0 < t.f0 then (-1 : Int) else if s.f0 > t.f0 then 1 else 0) = 0 then (if s.f1 < t.f1 then -1 else if s.f1 > t.f1 then 1 else 0) else (if s.f0 < t.f0 then -1 else if s.f0 > t.f0 then 1 else 0), ?_, ?_⟩
  · simp only [impl_tieOrder.f]
    refine Ev.bind0 (compare _ _) (Ev.bind0 (compare _ _) (Ev.bind (ev_or2 _ _) ?_))
    exact Ev.now _
  · unfold lt
    by_cases h1 : s.f0 < t.f0
    · simp only [if_pos h1]
      rw [if_neg (by omega)]
      omega
    · by_cases h2 : s.f0 > t.f0
      · simp only [if_neg h1, if_pos h2]
        rw [if_neg (by omega)]
        omega
      · simp only [if_neg h1, if_neg h2]
        rw [if_pos trivial]
        split
        · omega
        · split <;> omega
theorem ev_ascending_loop (E : List T) (hE : E.length ≤ 1048576) : ∀ (d i : Nat), 0 < i → i + d = E.length → Ev (fun k => impl_ascending.l0 k E i) (AscN (E.drop (i - 1)))
  | 0, i, h0, h => by
    refine Ev.succ ?_
    simp only [impl_ascending.l0]
    refine Ev.neg (by omega) ?_
    refine Ev.some_ ?_
    have : E.drop (i - 1) = [E[i - 1]'(by omega)] := by
      rw [List.drop_eq_getElem_cons (by omega), List.drop_of_length_le (by omega)]
    rw [this]; rfl
  | d + 1, i, h0, h => by
    obtain ⟨j, rfl⟩ : ∃ j, i = j + 1 := ⟨i - 1, by omega⟩
    have hj : j < E.length := by omega
    have hj1 : j + 1 < E.length := by omega
    refine Ev.succ ?_
    simp only [impl_ascending.l0]
    have hw : wrap64 (((j + 1 : Nat) : Int) - 1) = (j : Int) := by rw [w64 (by omega)]; omega
    rw [hw]
    refine Ev.pos (by omega) (Ev.pos (by omega) (Ev.pos (by omega) (Ev.pos (by omega) ?_)))
    rw [rd_T_nat E j hj, rd_T_nat E (j + 1) hj1]
    obtain ⟨c, hc, hlt⟩ := ev_tieOrder E[j] E[j + 1]
    refine Ev.bind hc ?_
    have hd : E.drop (j + 1 - 1) = E[j] :: E[j + 1] :: E.drop (j + 2) := by
      rw [Nat.add_sub_cancel, List.drop_eq_getElem_cons hj, List.drop_eq_getElem_cons hj1]
    rw [hd]
    simp only [AscN]
    by_cases h4 : c ≥ 0
    · refine Ev.pos h4 (Ev.some_ ?_)
      rw [decide_eq_false (fun k => by have := hlt.2 k; omega)]
      rfl
    · refine Ev.neg h4 ?_
      rw [w64 (by omega)]
      refine Ev.cast (ev_ascending_loop E hE d (j + 2) (by omega) (by omega)) ?_
      rw [decide_eq_true (hlt.1 (by omega)), show j + 2 - 1 = j + 1 from rfl, List.drop_eq_getElem_cons hj1]
      simp
theorem ev_ascending (E : List T) (hE : E.length ≤ 1048576) : Ev (fun k => impl_ascending.f k E) (dec (Asc E)) := by
  simp only [impl_ascending.f]
  rw [← dec_of (ascN_iff E)]
  by_cases h : E.length = 0
  · refine Ev.succ ?_
    simp only [impl_ascending.l0]
    refine Ev.neg (by omega) ?_
    have : E = [] := List.length_eq_zero_iff.1 h
    subst this
    exact Ev.now _
  · have := ev_ascending_loop E hE (E.length - 1) 1 (by omega) (by omega)
    simpa using this
theorem ev_impl_NetOk_loop (n : Int) (E : List T) (hE : E.length ≤ 1048576) : ∀ (d i : Nat), i + d = E.length →
    Ev (fun k => impl_NetOk.l0 k E E.length i n E) (dec ((∀ t ∈ E.drop i, 0 ≤ t.f0 ∧ t.f0 < t.f1 ∧ t.f1 < n) ∧ Asc E))
  | 0, i, h => by
    refine Ev.succ ?_
    simp only [impl_NetOk.l0]
    refine Ev.neg (by omega) ?_
    refine Ev.bind (ev_ascending E hE) ?_
    refine Ev.some_ (dec_congr ?_)
    rw [List.drop_of_length_le (by omega)]
    simp
  | d + 1, i, h => by
    have hi : i < E.length := by omega
    refine Ev.succ ?_
    simp only [impl_NetOk.l0, rd_T_nat E i hi]
    refine Ev.pos (by omega) (Ev.pos (by omega) (Ev.pos (by omega) ?_))
    rw [List.drop_eq_getElem_cons hi]
    by_cases h1 : E[i].f0 < 0
    · exact Ev.pos h1 (Ev.ff (fun a => by have := a.1 E[i] List.mem_cons_self; omega) (Ev.now _))
    · refine Ev.neg h1 ?_
      by_cases h2 : E[i].f0 ≥ E[i].f1
      · exact Ev.pos h2 (Ev.ff (fun a => by have := a.1 E[i] List.mem_cons_self; omega) (Ev.now _))
      · refine Ev.neg h2 ?_
        by_cases h3 : E[i].f1 ≥ n
        · exact Ev.pos h3 (Ev.ff (fun a => by have := a.1 E[i] List.mem_cons_self; omega) (Ev.now _))
        · refine Ev.neg h3 ?_
          rw [w64 (by omega)]
          refine Ev.cast (ev_impl_NetOk_loop n E hE d (i + 1) (by omega)) (dec_congr ?_)
          simp only [List.forall_mem_cons]
          exact ⟨fun a => ⟨⟨by omega, a.1⟩, a.2⟩, fun a => ⟨a.1.2, a.2⟩⟩
theorem ev_impl_NetOk (n : Int) (E : List T) (hE : E.length ≤ 1048576) : Ev (fun k => impl_NetOk.f k n E) (dec (OK n E)) := by
  simp only [impl_NetOk.f]
  by_cases h0 : n < 0
  · refine Ev.pos h0 (Ev.succ ?_)
    simp only [impl_NetOk.j0]
    exact Ev.pos trivial (Ev.ff (fun h => by have := h.n0; omega) (Ev.now _))
  · refine Ev.neg h0 (Ev.succ ?_)
    simp only [impl_NetOk.j0]
    by_cases h8 : n > 8
    · exact Ev.pos (decide_eq_true h8) (Ev.ff (fun h => by have := h.n8; omega) (Ev.now _))
    · refine Ev.neg (by simp only [decide_eq_true_eq]; exact h8) ?_
      refine Ev.cast (ev_impl_NetOk_loop n E hE E.length 0 (by omega)) (dec_congr ?_)
      rw [List.drop_zero]
      exact ⟨fun h => ⟨by omega, by omega, h.1, h.2⟩, fun h => ⟨h.tie, h.asc⟩⟩
def tie (a b : Int) : T := if a < b then ⟨a, b⟩ else ⟨b, a⟩
theorem tie_comm (a b : Int) : tie a b = tie b a := by
  unfold tie
  by_cases h : a < b
  · rw [if_pos h, if_neg (by omega)]
  · by_cases k : b < a
    · rw [if_neg h, if_pos k]
    · have : a = b := by omega
      subst this; rfl
theorem l1Tie (a b : Int) : spec_l1Tie.f a b = some ((tie a b).f0, (tie a b).f1) := by
  unfold spec_l1Tie.f tie
  split <;> rfl
def Has (E : List T) (a b : Int) : Prop := tie a b ∈ E
theorem Has.symm {E : List T} {a b : Int} (h : Has E a b) : Has E b a := by unfold Has at *; rw [tie_comm]; exact h
theorem ev_l1Has_loop (n : Int) (E : List T) (a b : Int) (hE : E.length ≤ 1048576) : ∀ (d i : Nat), i + d = E.length → Ev (fun k => spec_l1Has.l0 k a b i n E) (dec (tie a b ∈ E.drop i))
  | 0, i, h => by
    refine Ev.succ ?_
    simp only [spec_l1Has.l0]
    refine Ev.neg (by omega) (Ev.ff ?_ (Ev.now _))
    rw [List.drop_of_length_le (by omega)]; simp
  | d + 1, i, h => by
    have hi : i < E.length := by omega
    refine Ev.succ ?_
    simp only [spec_l1Has.l0, rd_T_nat E i hi]
    refine Ev.pos (by omega) (Ev.pos (by omega) (Ev.bind0 (l1Tie a b) ?_))
    rw [List.drop_eq_getElem_cons hi]
    by_cases e : E[i] = tie a b
    · exact Ev.pos (by rw [e]; simp) (Ev.tt (by rw [e]; exact List.mem_cons_self) (Ev.now _))
    · refine Ev.neg (fun k => e ?_) ?_
      · simp only [Bool.and_eq_true, beq_iff_eq] at k
        exact T.ext k.1 k.2
      · rw [w64 (by omega)]
        refine Ev.cast (ev_l1Has_loop n E a b hE d (i + 1) (by omega)) (dec_congr ?_)
        rw [List.mem_cons]
        exact ⟨Or.inr, fun k => k.resolve_left (fun x => e x.symm)⟩
theorem ev_l1Has (n : Int) (E : List T) (a b : Int) (hE : E.length ≤ 1048576) : Ev (fun k => spec_l1Has.f k n E a b) (dec (Has E a b)) := by
  simp only [spec_l1Has.f]
  exact ev_l1Has_loop n E a b hE E.length 0 (by omega)
/-- A knot of a net. -/
def In (n k : Int) : Prop := 0 ≤ k ∧ k < n
instance (n k : Int) : Decidable (In n k) := inferInstanceAs (Decidable (_ ∧ _))
theorem knot_eq (n : Int) (E : List T) (a : Int) : impl_Net_knot.f n E a = some (dec (In n a)) := by
  unfold impl_Net_knot.f
  by_cases h : a ≥ 0
  · rw [if_pos h]; congr 1; exact dec_of (by unfold In; rw [decide_eq_true_iff]; omega)
  · rw [if_neg h]; congr 1; exact (dec_f (by unfold In; omega)).symm
theorem ev_l1Knot (n : Int) (E : List T) (a : Int) (hE : E.length ≤ 1048576) (hw : WF E) : Ev (fun k => spec_l1Knot.f k n E a) (dec (OK n E ∧ In n a)) := by
  simp only [spec_l1Knot.f]
  refine Ev.bind (ev_spec_NetOk n E hE hw) ?_
  by_cases h : OK n E
  · have := h.n0
    have := h.n8
    refine Ev.pos (dec_t h) ?_
    rw [w64 (by omega)]
    refine Ev.bind0 (l6In _ _ _) (Ev.some_ (dec_of ?_))
    rw [decide_eq_true_iff]
    unfold In
    exact ⟨fun k => ⟨h, by omega⟩, fun k => by omega⟩
  · exact Ev.neg (by rw [dec_f h]; simp) (Ev.ff (fun k => h k.1) (Ev.now _))
theorem ev_spec_NetHas (n : Int) (E : List T) (a b : Int) (hE : E.length ≤ 1048576) (hw : WF E) : Ev (fun k => spec_NetHas.f k n E a b) (dec (OK n E ∧ Has E a b)) := by
  simp only [spec_NetHas.f]
  refine Ev.bind (ev_spec_NetOk n E hE hw) ?_
  by_cases h : OK n E
  · exact Ev.pos (dec_t h) (Ev.bind (ev_l1Has n E a b hE) (Ev.some_ (dec_congr ⟨fun k => ⟨h, k⟩, fun k => k.2⟩)))
  · exact Ev.neg (by rw [dec_f h]; simp) (Ev.ff (fun k => h k.1) (Ev.now _))
theorem OK.has {n : Int} {E : List T} (h : OK n E) {a b : Int} (hab : Has E a b) : In n a ∧ In n b ∧ a ≠ b := by
  have := h.tie _ hab
  unfold Th.tie at this
  unfold In
  split at this <;> simp only at this <;> omega
end Go.Proofs.Ytiamiahkjdipkaa.Th
namespace Go.Proofs.Ytiamiahkjdipkaa.Th
open Go.RowKit Go.Proofs.YtiamiahkjdipkaaW.PrintWords Go.Proofs.YtiamiahkjdipkaaW.PrintLast Go.Proofs.YtiamiahkjdipkaaW.PrintMore Go.Proofs.Ytiamiahkjdipkaa.F
theorem ev_index_loop (E : List T) (s : T) (hE : E.length ≤ 1048576) : ∀ (d i : Nat), i + d = E.length → ∃ c : Int, Ev (fun k => slices_Index_impl_Tie_impl_Tie.l0 k E E.length i s.f0 s.f1) c ∧ (c ≥ 0 ↔ s ∈ E.drop i)
  | 0, i, h => by
    refine ⟨-1, Ev.succ ?_, ?_⟩
    · simp only [slices_Index_impl_Tie_impl_Tie.l0]
      exact Ev.neg (by omega) (Ev.now _)
    · rw [List.drop_of_length_le (by omega)]; simp
  | d + 1, i, h => by
    have hi : i < E.length := by omega
    by_cases e : s = E[i]
    · refine ⟨i, Ev.succ ?_, ?_⟩
      · simp only [slices_Index_impl_Tie_impl_Tie.l0, rd_T_nat E i hi]
        refine Ev.pos (by omega) (Ev.pos (by omega) (Ev.pos (by omega) (Ev.pos (by rw [e]; simp) (Ev.now _))))
      · rw [List.drop_eq_getElem_cons hi]
        exact ⟨fun _ => by rw [e]; exact List.mem_cons_self, fun _ => by omega⟩
    · obtain ⟨c, hc, hm⟩ := ev_index_loop E s hE d (i + 1) (by omega)
      refine ⟨c, Ev.succ ?_, ?_⟩
      · simp only [slices_Index_impl_Tie_impl_Tie.l0, rd_T_nat E i hi]
        refine Ev.pos (by omega) (Ev.pos (by omega) (Ev.pos (by omega) (Ev.neg (fun k => e ?_) ?_)))
        · simp only [Bool.and_eq_true, beq_iff_eq] at k
          exact T.ext k.1 k.2
        · rw [w64 (by omega)]
          exact hc
      · rw [List.drop_eq_getElem_cons hi, List.mem_cons, hm]
        exact ⟨Or.inr, fun k => k.resolve_left e⟩
theorem ev_contains (E : List T) (s : T) (hE : E.length ≤ 1048576) : Ev (fun k => slices_Contains_impl_Tie_impl_Tie.f k E s.f0 s.f1) (dec (s ∈ E)) := by
  obtain ⟨c, hc, hm⟩ := ev_index_loop E s hE E.length 0 (by omega)
  simp only [slices_Contains_impl_Tie_impl_Tie.f, slices_Index_impl_Tie_impl_Tie.f]
  refine Ev.bind hc (Ev.some_ (dec_of ?_))
  rw [decide_eq_true_iff, hm, List.drop_zero]
theorem impl_tie_eq (a b : Int) : impl_tie.f a b = some ((tie a b).f0, (tie a b).f1) := by
  unfold impl_tie.f tie mn mx
  by_cases h : a < b
  · rw [if_pos h, if_pos h, if_neg (by omega)]
  · rw [if_neg h, if_neg h]
    by_cases k : b < a
    · rw [if_pos k]
    · rw [if_neg k]
      have e : a = b := by omega
      subst e; rfl
theorem ev_has (n : Int) (E : List T) (a b : Int) (hE : E.length ≤ 1048576) : Ev (fun k => impl_Net_has.f k n E a b) (dec (Has E a b)) := by
  simp only [impl_Net_has.f]
  exact Ev.bind0 (impl_tie_eq a b) (Ev.bind (ev_contains E (tie a b) hE) (Ev.now _))
/-- The knots 0, 1, .. of a net. -/
def ks (n : Int) : List Int := (List.range n.toNat).map (fun i : Nat => (i : Int))
theorem mem_ks {n k : Int} : k ∈ ks n ↔ 0 ≤ k ∧ k < n := by
  unfold ks
  simp only [List.mem_map, List.mem_range]
  exact ⟨fun ⟨i, h, e⟩ => by omega, fun h => ⟨k.toNat, by omega, by omega⟩⟩
theorem ks_length (n : Int) : (ks n).length = n.toNat := by simp [ks]
theorem ks_getElem (n : Int) (i : Nat) (h : i < (ks n).length) : (ks n)[i] = (i : Int) := by simp [ks]
theorem ks_pairwise (n : Int) : (ks n).Pairwise (· < ·) := by
  refine List.pairwise_iff_getElem.2 (fun i j hi hj h => ?_)
  rw [ks_getElem, ks_getElem]; omega
theorem ks_nodup (n : Int) : (ks n).Nodup := (ks_pairwise n).imp (fun h => by omega)
/-- Counting on from j. -/
def ksFrom (n j : Int) : List Int := (ks n).drop j.toNat
theorem ksFrom_zero (n : Int) : ksFrom n 0 = ks n := by simp [ksFrom]
theorem ksFrom_end {n j : Int} (h : n ≤ j) : ksFrom n j = [] := by
  unfold ksFrom
  exact List.drop_of_length_le (by rw [ks_length]; omega)
theorem ksFrom_cons {n j : Int} (h0 : 0 ≤ j) (h : j < n) : ksFrom n j = j :: ksFrom n (j + 1) := by
  unfold ksFrom
  rw [List.drop_eq_getElem_cons (by rw [ks_length]; omega), ks_getElem]
  rw [show (j + 1).toNat = j.toNat + 1 by omega]
  congr 1
  omega
theorem rd_i (l : List Int) (x : Int) (h : 0 ≤ x) (k : x < l.length) : rd l x = l[x.toNat]'(by omega) := by
  simp [rd, List.getD_eq_getElem?_getD, List.getElem?_eq_getElem (show x.toNat < l.length by omega)]
theorem rdB_i (l : List Bool) (x : Int) (h : 0 ≤ x) (k : x < l.length) : rdOf false l x = l[x.toNat]'(by omega) := by
  simp [rdOf, List.getD_eq_getElem?_getD, List.getElem?_eq_getElem (show x.toNat < l.length by omega)]
theorem rd_set (l : List Int) (i j x : Int) (h : 0 ≤ i) (k : i < l.length) (hj : 0 ≤ j) : rd (l.set i.toNat x) j = if j = i then x else rd l j := by
  unfold rd
  simp only [List.getD_eq_getElem?_getD]
  by_cases e : j = i
  · subst e
    rw [List.getElem?_set_self (by omega), if_pos rfl]; rfl
  · rw [if_neg e, List.getElem?_set_ne (by omega)]
theorem ext_rd {a b : List Int} (h : a.length = b.length) (k : ∀ x : Int, 0 ≤ x → x < a.length → rd a x = rd b x) : a = b := by
  refine List.ext_getElem h (fun i h1 h2 => ?_)
  have := k i (by omega) (by omega)
  rw [rd_i a i (by omega) (by omega), rd_i b i (by omega) (by omega)] at this
  exact this
theorem ext_rdB {a b : List Bool} (h : a.length = b.length) (k : ∀ x : Int, 0 ≤ x → x < a.length → rdOf false a x = rdOf false b x) : a = b := by
  refine List.ext_getElem h (fun i h1 h2 => ?_)
  have := k i (by omega) (by omega)
  rw [rdB_i a i (by omega) (by omega), rdB_i b i (by omega) (by omega)] at this
  exact this
theorem rd_mapks (n : Int) (f : Int → Int) (x : Int) (h : 0 ≤ x) (k : x < n) : rd ((ks n).map f) x = f x := by
  rw [rd_i _ _ h (by rw [List.length_map, ks_length]; omega), List.getElem_map, ks_getElem]
  congr 1; omega
theorem rdB_mapks (n : Int) (f : Int → Bool) (x : Int) (h : 0 ≤ x) (k : x < n) : rdOf false ((ks n).map f) x = f x := by
  rw [rdB_i _ _ h (by rw [List.length_map, ks_length]; omega), List.getElem_map, ks_getElem]
  congr 1; omega
theorem sum_nonneg : ∀ (l : List Int), (∀ x ∈ l, 0 ≤ x) → 0 ≤ l.sum
  | [], _ => by simp
  | a :: l, h => by
    have := sum_nonneg l (fun x hx => h x (by simp [hx]))
    have := h a (by simp)
    simp only [List.sum_cons]; omega
theorem all_loop {L : Nat → Nat → Option Bool} (len : Nat) (p : Nat → Prop) (hend : Ev (fun k => L k len) true) (hyes : ∀ i, i < len → p i → ∀ b, Ev (fun k => L k (i + 1)) b → Ev (fun k => L k i) b)
    (hno : ∀ i, i < len → ¬ p i → Ev (fun k => L k i) false) : ∀ d i, i + d = len → Ev (fun k => L k i) (dec (∀ j, i ≤ j → j < len → p j))
  | 0, i, h => by
    obtain rfl : i = len := by omega
    exact Ev.tt (fun j h1 h2 => by omega) hend
  | d + 1, i, h => by
    by_cases hp : p i
    · refine Ev.cast (hyes i (by omega) hp _ (all_loop len p hend hyes hno d (i + 1) (by omega))) (dec_congr ?_)
      constructor
      · intro a j h1 h2
        by_cases e : j = i
        · subst e; exact hp
        · exact a j (by omega) h2
      · intro a j h1 h2; exact a j (by omega) h2
    · exact Ev.ff (fun a => hp (a i (Nat.le_refl _) (by omega))) (hno i (by omega) hp)
theorem rd_getElem (l : List Int) (i : Nat) (h : i < l.length) : rd l (i : Int) = l[i] := by
  rw [rd_nat, List.getD_eq_getElem?_getD, List.getElem?_eq_getElem h, Option.getD_some]
theorem mem_iff_rd (l : List Int) (x : Int) : x ∈ l ↔ ∃ j, 0 ≤ j ∧ j < l.length ∧ rd l (j : Int) = x := by
  rw [List.mem_iff_getElem]
  constructor
  · rintro ⟨j, h, e⟩; exact ⟨j, Nat.zero_le _, h, by rw [rd_getElem l j h]; exact e⟩
  · rintro ⟨j, _, h, e⟩; exact ⟨j, h, by rw [← rd_getElem l j h]; exact e⟩
end Go.Proofs.Ytiamiahkjdipkaa.Th
namespace Go.Proofs.Ytiamiahkjdipkaa.Th
open Go.RowKit Go.Proofs.YtiamiahkjdipkaaW.PrintWords Go.Proofs.YtiamiahkjdipkaaW.PrintMore Go.Proofs.Ytiamiahkjdipkaa.F
theorem ev_indexInt_loop (l : List Int) (x : Int) (hl : l.length ≤ 1048576) : ∀ (d i : Nat), i + d = l.length → ∃ c : Int, Ev (fun k => slices_Index_int_int.l0 k l x l.length i) c ∧ (c ≥ 0 ↔ x ∈ l.drop i)
  | 0, i, h => by
    refine ⟨-1, Ev.succ ?_, ?_⟩
    · simp only [slices_Index_int_int.l0]
      exact Ev.neg (by omega) (Ev.now _)
    · rw [List.drop_of_length_le (by omega)]; simp
  | d + 1, i, h => by
    have hi : i < l.length := by omega
    by_cases e : x = l[i]
    · refine ⟨i, Ev.succ ?_, ?_⟩
      · simp only [slices_Index_int_int.l0, rd_getElem l i hi]
        exact Ev.pos (by omega) (Ev.pos (by omega) (Ev.pos (by omega) (Ev.pos e (Ev.now _))))
      · rw [List.drop_eq_getElem_cons hi]
        exact ⟨fun _ => by rw [e]; exact List.mem_cons_self, fun _ => by omega⟩
    · obtain ⟨c, hc, hm⟩ := ev_indexInt_loop l x hl d (i + 1) (by omega)
      refine ⟨c, Ev.succ ?_, ?_⟩
      · simp only [slices_Index_int_int.l0, rd_getElem l i hi]
        refine Ev.pos (by omega) (Ev.pos (by omega) (Ev.pos (by omega) (Ev.neg e ?_)))
        rw [w64 (by omega)]
        exact hc
      · rw [List.drop_eq_getElem_cons hi, List.mem_cons, hm]
        exact ⟨Or.inr, fun k => k.resolve_left e⟩
theorem ev_containsInt (l : List Int) (x : Int) (hl : l.length ≤ 1048576) : Ev (fun k => slices_Contains_int_int.f k l x) (dec (x ∈ l)) := by
  obtain ⟨c, hc, hm⟩ := ev_indexInt_loop l x hl l.length 0 (by omega)
  simp only [slices_Contains_int_int.f, slices_Index_int_int.f]
  refine Ev.bind hc (Ev.some_ (dec_of ?_))
  rw [decide_eq_true_iff, hm, List.drop_zero]
end Go.Proofs.Ytiamiahkjdipkaa.Th
namespace Go.Proofs.Ytiamiahkjdipkaa.Th
open Go.RowKit Go.Proofs.YtiamiahkjdipkaaW.PrintWords Go.Proofs.YtiamiahkjdipkaaW.PrintLast Go.Proofs.YtiamiahkjdipkaaW.PrintMore Go.Proofs.Ytiamiahkjdipkaa.F
/-- The second is come to from the first. -/
inductive Conn (E : List T) : Int → Int → Prop
  | refl (a : Int) : Conn E a a
  | step {a b c : Int} : Conn E a b → Has E b c → Conn E a c
theorem Conn.one {E : List T} {a b : Int} (h : Has E a b) : Conn E a b := .step (.refl a) h
theorem Conn.trans {E : List T} {a b c : Int} (h : Conn E a b) (k : Conn E b c) : Conn E a c := by
  induction k with
  | refl => exact h
  | step _ m ih => exact .step ih m
theorem Conn.symm {E : List T} {a b : Int} (h : Conn E a b) : Conn E b a := by
  induction h with
  | refl => exact .refl _
  | step _ m ih => exact (Conn.one m.symm).trans ih
theorem Conn.comm {E : List T} {a b : Int} : Conn E a b ↔ Conn E b a := ⟨Conn.symm, Conn.symm⟩
theorem Conn.mono {E F : List T} (h : ∀ t, t ∈ E → t ∈ F) {a b : Int} (k : Conn E a b) : Conn F a b := by
  induction k with
  | refl => exact .refl _
  | step _ m ih => exact .step ih (h _ m)
theorem Conn.congr {E F : List T} (h : ∀ t, t ∈ E ↔ t ∈ F) {a b : Int} : Conn E a b ↔ Conn F a b := ⟨Conn.mono fun t => (h t).1, Conn.mono fun t => (h t).2⟩
/-- What ties keep, what is come to keeps. -/
theorem Conn.keeps {E : List T} {P : Int → Prop} (h : ∀ a b, Has E a b → P a → P b) {a b : Int} (k : Conn E a b) (ha : P a) : P b := by
  induction k with
  | refl => exact ha
  | step _ m ih => exact h _ _ m ih
theorem Conn.inNet {n : Int} {E : List T} (h : OK n E) {a b : Int} (k : Conn E a b) (ha : In n a) : In n b := k.keeps (fun _ _ m _ => (h.has m).2.1) ha
theorem Conn.first {E : List T} {a b : Int} (h : Conn E a b) : a = b ∨ ∃ c, Has E a c ∧ Conn E c b := by
  induction h with
  | refl => exact Or.inl rfl
  | step m hb ih =>
    rcases ih with rfl | ⟨c, h1, h2⟩
    · exact Or.inr ⟨_, hb, .refl _⟩
    · exact Or.inr ⟨c, h1, .step h2 hb⟩
/-- If the ties of one net lead in another one, so does all. -/
theorem Conn.sub {E F : List T} (h : ∀ a b, Has E a b → Conn F a b) {a b : Int} (k : Conn E a b) : Conn F a b := by
  induction k with
  | refl => exact .refl _
  | step _ m ih => exact ih.trans (h _ _ m)
theorem tie_self {n : Int} {E : List T} (h : OK n E) {t : T} (ht : t ∈ E) : tie t.f0 t.f1 = t := by
  have := h.tie t ht
  unfold tie
  rw [if_pos (by omega)]
theorem has_of_mem {n : Int} {E : List T} (h : OK n E) {t : T} (ht : t ∈ E) : Has E t.f0 t.f1 := by
  unfold Has; rw [tie_self h ht]; exact ht
theorem tie_of_mem {t : T} (h : t.f0 < t.f1) : tie t.f0 t.f1 = t := by unfold tie; rw [if_pos h]
theorem tie_eq_iff {a b : Int} {t : T} (h : t.f0 < t.f1) : tie a b = t ↔ (a = t.f0 ∧ b = t.f1) ∨ (a = t.f1 ∧ b = t.f0) := by
  constructor
  · intro e
    unfold tie at e
    split at e <;> subst e
    · exact Or.inl ⟨rfl, rfl⟩
    · exact Or.inr ⟨rfl, rfl⟩
  · rintro (⟨rfl, rfl⟩ | ⟨rfl, rfl⟩)
    · exact tie_of_mem h
    · rw [tie_comm]; exact tie_of_mem h
/-- The two knots of a tie. -/
theorem tie_ends {a b : Int} {t : T} (e : tie a b = t) : (a = t.f0 ∧ b = t.f1) ∨ (a = t.f1 ∧ b = t.f0) := by
  unfold tie at e
  split at e <;> subst e
  · exact Or.inl ⟨rfl, rfl⟩
  · exact Or.inr ⟨rfl, rfl⟩
theorem tie_inj {a b c d : Int} (h : tie a b = tie c d) : (a = c ∧ b = d) ∨ (a = d ∧ b = c) := by
  unfold tie at h
  split at h <;> split at h <;> simp only [S35.mk.injEq] at h <;> omega
theorem OK.filter {n : Int} {E : List T} (h : OK n E) (p : T → Bool) : OK n (E.filter p) :=
  ⟨h.n0, h.n8, fun t ht => h.tie t (List.mem_filter.1 ht).1, h.asc.filter p⟩
theorem OK.nil {n : Int} (h0 : 0 ≤ n) (h8 : n ≤ 8) : OK n [] := ⟨h0, h8, by simp, List.Pairwise.nil⟩
theorem OK.nodup {n : Int} {E : List T} (h : OK n E) : E.Nodup := h.asc.imp (fun h e => by subst e; exact lt_irrefl _ h)
/-- A net without some ties. -/
noncomputable def less (E : List T) (p : T → Prop) : List T := E.filter (fun t => !dec (p t))
theorem mem_less {E : List T} {p : T → Prop} {t : T} : t ∈ less E p ↔ t ∈ E ∧ ¬ p t := by
  unfold less
  rw [List.mem_filter]
  by_cases h : p t
  · rw [dec_t h]; simp [h]
  · rw [dec_f h]; simp [h]
theorem OK.less {n : Int} {E : List T} (h : OK n E) (p : T → Prop) : OK n (less E p) := h.filter _
theorem less_congr {E : List T} {p q : T → Prop} (h : ∀ t ∈ E, p t ↔ q t) : less E p = less E q := by
  unfold less
  refine List.filter_congr (fun t ht => ?_)
  rw [dec_congr (h t ht)]
theorem less_none {E : List T} {p : T → Prop} (h : ∀ t ∈ E, ¬ p t) : less E p = E := by
  unfold less
  refine List.filter_eq_self.2 (fun t ht => ?_)
  rw [dec_f (h t ht)]; rfl
theorem less_less (E : List T) (p q : T → Prop) : less (less E p) q = less E (fun t => p t ∨ q t) := by
  unfold less
  rw [List.filter_filter]
  refine List.filter_congr (fun t _ => ?_)
  by_cases h : p t
  · rw [dec_t h, dec_t (Or.inl h : p t ∨ q t)]; simp
  · by_cases k : q t
    · rw [dec_t k, dec_t (Or.inr k : p t ∨ q t)]; simp
    · rw [dec_f h, dec_f k, dec_f (not_or.2 ⟨h, k⟩ : ¬ (p t ∨ q t))]; simp
/-- Without the ties of a knot. -/
abbrev AtK (k : Int) (t : T) : Prop := t.f0 = k ∨ t.f1 = k
/-- The ties that a knot does not have. -/
noncomputable abbrev lessK (E : List T) (k : Int) : List T := less E (AtK k)
theorem less_cons_pos {t : T} {E : List T} {p : T → Prop} (h : p t) : less (t :: E) p = less E p := by
  unfold less
  rw [List.filter_cons_of_neg (p := fun t => !dec (p t)) (by rw [dec_t h]; simp)]
/-- Without a tie a net hangs together but between its ends. -/
theorem Conn.without {E : List T} {t : T} (ht : t.f0 < t.f1) {a b : Int} (k : Conn E a b) (hc : Conn (Th.less E (· = t)) t.f0 t.f1) : Conn (Th.less E (· = t)) a b := by
  refine k.sub (fun c d m => ?_)
  by_cases e : tie c d = t
  · rcases (tie_eq_iff ht).1 e with ⟨rfl, rfl⟩ | ⟨rfl, rfl⟩
    · exact hc
    · exact hc.symm
  · exact .one (mem_less.2 ⟨m, e⟩)
noncomputable def rep (E : List T) (i : Int) : Int := ((ks (i + 1)).find? (fun j => dec (Conn E j i))).getD 0
theorem rep_spec (E : List T) {i : Int} (h : 0 ≤ i) : Conn E (rep E i) i ∧ 0 ≤ rep E i ∧ rep E i ≤ i ∧ ∀ j, 0 ≤ j → Conn E j i → rep E i ≤ j := by
  unfold rep
  cases e : (ks (i + 1)).find? (fun j => dec (Conn E j i)) with
  | none =>
    rw [List.find?_eq_none] at e
    exact absurd (dec_t (Conn.refl i)) (by have := e i (mem_ks.2 (by omega)); simpa using this)
  | some x =>
    obtain ⟨h1, l1, l2, h2, h3⟩ := List.find?_eq_some_iff_append.1 e
    have hx : x ∈ ks (i + 1) := by rw [h2]; simp
    have hx' := mem_ks.1 hx
    refine ⟨dec_iff.1 h1, hx'.1, by simp only [Option.getD_some]; omega, fun j hj hc => ?_⟩
    simp only [Option.getD_some]
    by_cases hji : j ≤ i
    · have hj' : j ∈ ks (i + 1) := mem_ks.2 (by omega)
      have hp := ks_pairwise (i + 1)
      rw [h2] at hj' hp
      rcases List.mem_append.1 hj' with m | m
      · have := h3 j m
        rw [dec_t hc] at this
        exact absurd this (by simp)
      · rcases List.mem_cons.1 m with rfl | m
        · exact Int.le_refl _
        · have := (List.pairwise_cons.1 (List.pairwise_append.1 hp).2.1).1 j m
          omega
    · omega
theorem rep_conn (E : List T) {i : Int} (h : 0 ≤ i) : Conn E (rep E i) i := (rep_spec E h).1
theorem rep_nonneg (E : List T) {i : Int} (h : 0 ≤ i) : 0 ≤ rep E i := (rep_spec E h).2.1
theorem rep_least (E : List T) {i : Int} (h : 0 ≤ i) {j : Int} (hj : 0 ≤ j) (hc : Conn E j i) : rep E i ≤ j := (rep_spec E h).2.2.2 j hj hc
theorem rep_unique (E : List T) {i x : Int} (h : 0 ≤ i) (hx : 0 ≤ x) (hc : Conn E x i) (hl : ∀ j, 0 ≤ j → Conn E j i → x ≤ j) : rep E i = x := by
  have h1 := rep_least E h hx hc
  have h2 := hl _ (rep_nonneg E h) (rep_conn E h)
  omega
/-- The labels of all knots; where one leads; how many parts there are. -/
noncomputable def partsL (n : Int) (E : List T) : List Int := (ks n).map (rep E)
noncomputable def reachL (n : Int) (E : List T) (a : Int) : List Bool := (ks n).map (fun b => dec (Conn E a b))
end Go.Proofs.Ytiamiahkjdipkaa.Th
namespace Go.Proofs.Ytiamiahkjdipkaa.Th
open Go.RowKit Go.Proofs.YtiamiahkjdipkaaW.PrintWords Go.Proofs.YtiamiahkjdipkaaW.PrintMore Go.Proofs.Ytiamiahkjdipkaa.F
def Walk (R : Int → Int → Prop) : List Int → Prop
  | [] => True
  | [_] => True
  | a :: b :: l => R a b ∧ Walk R (b :: l)
theorem nodup_iff (w : List Int) : w.Nodup ↔ ∀ j : Nat, j < w.length → rd w (j : Int) ∉ w.take j := by
  unfold List.Nodup
  rw [List.pairwise_iff_getElem]
  constructor
  · intro h j hj hm
    rw [rd_getElem w j hj] at hm
    obtain ⟨i, hi, e⟩ := List.mem_iff_getElem.1 hm
    have hi' : i < j := by simp at hi; omega
    exact h i j (by omega) hj hi' (by simpa using e)
  · intro h i j hi hj hij e
    refine h j hj ?_
    rw [rd_getElem w j hj, ← e]
    exact List.mem_iff_getElem.2 ⟨i, by simp; omega, by simp⟩
/-- A way of a net. -/
structure IsWay (n : Int) (E : List T) (w : List Int) : Prop where
  ne : w ≠ []
  inn : ∀ v ∈ w, In n v
  nd : w.Nodup
  walk : Walk (Has E) w
/-- A way from one knot to another one, of a valid net. -/
def Leads (n : Int) (E : List T) (a b : Int) (w : List Int) : Prop := OK n E ∧ IsWay n E w ∧ rd w 0 = a ∧ rd w ((w.length : Int) - 1) = b
theorem Leads.pos {n : Int} {E : List T} {a b : Int} {w : List Int} (h : Leads n E a b w) : 0 < w.length := List.length_pos_iff.2 h.2.1.ne
theorem Leads.two {n : Int} {E : List T} {a b : Int} {w : List Int} (h : Leads n E a b w) (hab : a ≠ b) : 2 ≤ w.length := by
  have h0 := h.pos
  by_cases h1 : w.length = 1
  · exact absurd (by rw [← h.2.2.1, ← h.2.2.2, h1]; rfl) hab
  · omega
/-- Two ways with the same ends are apart. -/
def Apart (x y : List Int) : Prop := ¬ (x.length = 2 ∧ y.length = 2) ∧ ∀ i : Nat, 1 ≤ i → i + 1 < x.length → rd x (i : Int) ∉ y
end Go.Proofs.Ytiamiahkjdipkaa.Th
namespace Go.Proofs.Ytiamiahkjdipkaa.Th
open Go.RowKit Go.Proofs.YtiamiahkjdipkaaW.PrintWords Go.Proofs.YtiamiahkjdipkaaW.PrintLast Go.Proofs.YtiamiahkjdipkaaW.PrintMore Go.Proofs.Ytiamiahkjdipkaa.F
theorem walk_cons (R : Int → Int → Prop) (a b : Int) (l : List Int) : Walk R (a :: b :: l) ↔ R a b ∧ Walk R (b :: l) := Iff.rfl
theorem walk_app (R : Int → Int → Prop) : ∀ (A : List Int) (k : Int) (B : List Int), Walk R (A ++ k :: B) ↔ Walk R (A ++ [k]) ∧ Walk R (k :: B)
  | [], k, B => by simp [Walk]
  | [a], k, B => by simp [Walk]
  | a :: b :: A, k, B => by
    have := walk_app R (b :: A) k B
    simp only [List.cons_append, walk_cons] at this ⊢
    rw [this, and_assoc]
theorem walk_mono {R S : Int → Int → Prop} (h : ∀ a b, R a b → S a b) : ∀ w : List Int, Walk R w → Walk S w
  | [], _ => trivial
  | [_], _ => trivial
  | _ :: b :: l, k => ⟨h _ _ k.1, walk_mono h (b :: l) k.2⟩
theorem walk_rev {R : Int → Int → Prop} (hs : ∀ a b, R a b → R b a) : ∀ w : List Int, Walk R w → Walk R w.reverse
  | [], _ => trivial
  | [_], _ => trivial
  | a :: b :: l, k => by
    have ih := walk_rev hs (b :: l) k.2
    rw [List.reverse_cons] at ih ⊢
    rw [List.reverse_cons, List.append_assoc, List.singleton_append]
    exact (walk_app R _ _ _).2 ⟨ih, hs _ _ k.1, trivial⟩
/-- The ties of a row of knots. -/
def es : List Int → List T
  | [] => []
  | [_] => []
  | a :: b :: l => tie a b :: es (b :: l)
theorem es_app : ∀ (A : List Int) (k : Int) (B : List Int), es (A ++ k :: B) = es (A ++ [k]) ++ es (k :: B)
  | [], k, B => by simp [es]
  | [a], k, B => by simp [es]
  | a :: b :: A, k, B => by
    have := es_app (b :: A) k B
    simp only [List.cons_append, es] at this ⊢
    rw [this]
theorem mem_es_rev : ∀ (w : List Int) (t : T), t ∈ es w.reverse ↔ t ∈ es w
  | [], t => by simp
  | [_], t => by simp
  | a :: b :: l, t => by
    have ih := mem_es_rev (b :: l) t
    rw [List.reverse_cons] at ih ⊢
    rw [List.reverse_cons, List.append_assoc, List.singleton_append, es_app, List.mem_append, ih]
    simp only [es, List.mem_cons, List.not_mem_nil, or_false]
    rw [tie_comm b a]
    exact Or.comm
theorem mem_es {t : T} : ∀ {w : List Int}, t ∈ es w → ∃ A k x B, w = A ++ k :: x :: B ∧ tie k x = t
  | [], h => by simp [es] at h
  | [_], h => by simp [es] at h
  | a :: b :: l, h => by
    simp only [es, List.mem_cons] at h
    rcases h with h | h
    · exact ⟨[], a, b, l, rfl, h.symm⟩
    · obtain ⟨A, k, x, B, e, ht⟩ := mem_es (w := b :: l) h
      exact ⟨a :: A, k, x, B, by rw [e]; rfl, ht⟩
theorem walk_es {E : List T} : ∀ {w : List Int}, Walk (Has E) w ↔ ∀ t ∈ es w, t ∈ E
  | [] => by simp [Walk, es]
  | [_] => by simp [Walk, es]
  | a :: b :: l => by
    rw [walk_cons, walk_es (w := b :: l)]
    simp only [es, List.mem_cons, forall_eq_or_imp]
    exact Iff.rfl
/-- A path: different knots, each tied to the next. -/
structure Path (E : List T) (a b : Int) (w : List Int) : Prop where
  nd : w.Nodup
  walk : Walk (Has E) w
  hd : w.head? = some a
  lst : w.getLast? = some b
theorem Path.mono {E F : List T} (h : ∀ t, t ∈ E → t ∈ F) {a b : Int} {w : List Int} (p : Path E a b w) : Path F a b w := ⟨p.nd, walk_mono (fun _ _ k => h _ k) w p.walk, p.hd, p.lst⟩
theorem Path.rev {E : List T} {a b : Int} {w : List Int} (p : Path E a b w) : Path E b a w.reverse :=
  ⟨List.pairwise_reverse.2 (p.nd.imp fun h => h.symm), walk_rev (fun _ _ k => k.symm) _ p.walk, by rw [List.head?_reverse]; exact p.lst, by rw [List.getLast?_reverse]; exact p.hd⟩
theorem Path.ne {E : List T} {a b : Int} {w : List Int} (p : Path E a b w) : w ≠ [] := by
  rintro rfl; have := p.hd; simp at this
theorem Path.memA {E : List T} {a b : Int} {w : List Int} (p : Path E a b w) : a ∈ w := List.mem_of_mem_head? (by rw [p.hd]; rfl)
theorem Path.memB {E : List T} {a b : Int} {w : List Int} (p : Path E a b w) : b ∈ w := List.mem_of_getLast? p.lst
theorem Path.single (E : List T) (a : Int) : Path E a a [a] := ⟨by simp, trivial, rfl, rfl⟩
/-- A path's head stands by itself. -/
theorem Path.cons_eq {E : List T} {a b : Int} {w : List Int} (p : Path E a b w) : ∃ r, w = a :: r := by
  cases w with
  | nil => exact absurd rfl p.ne
  | cons x r => have := p.hd; simp at this; exact ⟨r, by rw [this]⟩
/-- The way on from a knot of it. -/
theorem Path.drop {E : List T} {a b k : Int} {A B : List Int} (p : Path E a b (A ++ k :: B)) : Path E k b (k :: B) :=
  ⟨(List.nodup_append.1 p.nd).2.1, ((walk_app _ _ _ _).1 p.walk).2, rfl, by have := p.lst; rw [List.getLast?_append] at this; simpa using this⟩
theorem Path.take {E : List T} {a b k : Int} {A B : List Int} (p : Path E a b (A ++ k :: B)) : Path E a k (A ++ [k]) := by
  refine ⟨?_, ((walk_app _ _ _ _).1 p.walk).1, ?_, by simp⟩
  · have := p.nd
    rw [List.nodup_append] at this ⊢
    refine ⟨this.1, by simp, fun x hx y hy => ?_⟩
    simp only [List.mem_singleton] at hy
    subst hy
    exact this.2.2 x hx y (by simp)
  · have := p.hd
    cases A <;> simpa using this
/-- A knot ahead. -/
theorem Path.consP {E : List T} {k a b : Int} {w : List Int} (p : Path E a b w) (h : Has E k a) (hk : k ∉ w) : Path E k b (k :: w) := by
  obtain ⟨r, rfl⟩ := p.cons_eq
  exact ⟨List.nodup_cons.2 ⟨hk, p.nd⟩, ⟨h, p.walk⟩, rfl, by have := p.lst; simpa using this⟩
/-- Two paths that have one knot alone in common, put together. -/
theorem Path.append {E : List T} {a k b : Int} {A B : List Int} (p : Path E a k (A ++ [k])) (q : Path E k b (k :: B)) (h : ∀ x ∈ A, x ∉ B) : Path E a b (A ++ k :: B) := by
  refine ⟨?_, (walk_app _ _ _ _).2 ⟨p.walk, q.walk⟩, ?_, ?_⟩
  · rw [List.nodup_append]
    have hp := List.nodup_append.1 p.nd
    refine ⟨hp.1, q.nd, fun x hx y hy e => ?_⟩
    subst e
    rcases List.mem_cons.1 hy with rfl | hy
    · exact hp.2.2 x hx x (by simp) rfl
    · exact h x hx hy
  · have := p.hd
    cases A <;> simpa using this
  · have := q.lst
    rw [List.getLast?_append]
    simpa using this
theorem Path.conn {E : List T} : ∀ {w : List Int} {a b : Int}, Path E a b w → Conn E a b
  | [], a, b, p => absurd rfl p.ne
  | [x], a, b, p => by
    have h := p.hd; have l := p.lst
    simp at h l
    subst h; subst l
    exact .refl _
  | x :: y :: r, a, b, p => by
    have h := p.hd
    simp at h
    subst h
    have q : Path E y b (y :: r) := Path.drop (A := [x]) p
    exact (Conn.one p.walk.1).trans q.conn
theorem Path.conn_mem {E : List T} {w : List Int} {a b : Int} (p : Path E a b w) {x : Int} (hx : x ∈ w) : Conn E a x := by
  obtain ⟨A, B, rfl⟩ := List.append_of_mem hx
  exact p.take.conn
/-- What is come to is come to by a path. -/
theorem Conn.path {E : List T} {a b : Int} (h : Conn E a b) : ∃ w, Path E a b w := by
  induction h with
  | refl => exact ⟨_, Path.single _ _⟩
  | step _ m ih =>
    rename_i c d _
    obtain ⟨w, p⟩ := ih
    by_cases hd : d ∈ w
    · obtain ⟨A, B, rfl⟩ := List.append_of_mem hd
      exact ⟨_, p.take⟩
    · have := (p.rev.consP m.symm (by simpa using hd)).rev
      exact ⟨_, this⟩
/-- A path keeps off a knot that is none of its own. -/
theorem Path.off {E : List T} {a b v : Int} {w : List Int} (p : Path E a b w) (hv : v ∉ w) : Path (lessK E v) a b w := by
  refine ⟨p.nd, walk_es.2 (fun t ht => mem_less.2 ⟨walk_es.1 p.walk t ht, fun hk => ?_⟩), p.hd, p.lst⟩
  obtain ⟨A, k, x, B, rfl, rfl⟩ := mem_es ht
  have h1 : k ∈ A ++ k :: x :: B := by simp
  have h2 : x ∈ A ++ k :: x :: B := by simp
  rcases tie_ends (rfl : tie k x = tie k x) with ⟨e1, e2⟩ | ⟨e1, e2⟩ <;> rcases hk with hk | hk
  · exact hv (by rw [← hk, ← e1]; exact h1)
  · exact hv (by rw [← hk, ← e2]; exact h2)
  · exact hv (by rw [← hk, ← e2]; exact h2)
  · exact hv (by rw [← hk, ← e1]; exact h1)
/-- A path of a net without a knot: it is none of its knots, but as the start. -/
theorem not_mem_off {E : List T} {a b v : Int} {w : List Int} (p : Path (lessK E v) a b w) (ha : a ≠ v) : v ∉ w := by
  intro hv
  have hc := p.conn_mem hv
  rcases hc.symm.first with e | ⟨c, h, _⟩
  · exact ha e.symm
  · have := (mem_less.1 h).2
    refine this ?_
    rcases tie_ends (rfl : tie v c = tie v c) with ⟨e1, _⟩ | ⟨e1, _⟩
    · exact Or.inl e1.symm
    · exact Or.inr e1.symm
def On (t : T) (x : Int) : Prop := x = t.f0 ∨ x = t.f1
theorem on_tie {a b x : Int} : On (tie a b) x ↔ x = a ∨ x = b := by
  unfold On tie
  split
  · exact Iff.rfl
  · exact Or.comm
/-- No knot parts them. -/
def Bl (E : List T) (s t : T) : Prop := ∀ v, ∃ x y, On s x ∧ x ≠ v ∧ On t y ∧ y ≠ v ∧ Conn (lessK E v) x y
/-- Two ends of a tie hang together without a knot that is none of them. -/
theorem on_conn {n : Int} {E : List T} (h : OK n E) {t : T} (ht : t ∈ E) {v x y : Int} (hx : On t x) (hxv : x ≠ v) (hy : On t y) (hyv : y ≠ v) : Conn (lessK E v) x y := by
  by_cases e : x = y
  · subst e; exact .refl _
  · have hm : t ∈ lessK E v := by
      refine mem_less.2 ⟨ht, fun k => ?_⟩
      rcases hx with rfl | rfl <;> rcases hy with rfl | rfl <;> rcases k with k | k <;> first | exact e rfl | exact hxv k | exact hyv k
    have hh := has_of_mem (h.less (AtK v)) hm
    rcases hx with rfl | rfl <;> rcases hy with rfl | rfl
    · exact .refl _
    · exact .one hh
    · exact .one hh.symm
    · exact .refl _
theorem Bl.symm {E : List T} {s t : T} (h : Bl E s t) : Bl E t s := fun v => by
  obtain ⟨x, y, a, b, c, d, e⟩ := h v
  exact ⟨y, x, c, d, a, b, e.symm⟩
theorem Bl.refl {n : Int} {E : List T} (h : OK n E) {t : T} (ht : t ∈ E) : Bl E t t := fun v => by
  have := h.tie t ht
  by_cases e : t.f0 = v
  · exact ⟨t.f1, t.f1, Or.inr rfl, by omega, Or.inr rfl, by omega, .refl _⟩
  · exact ⟨t.f0, t.f0, Or.inl rfl, e, Or.inl rfl, e, .refl _⟩
theorem Bl.trans {n : Int} {E : List T} (h : OK n E) {s t u : T} (ht : t ∈ E) (p : Bl E s t) (q : Bl E t u) : Bl E s u := fun v => by
  obtain ⟨x, y, a, b, c, d, e⟩ := p v
  obtain ⟨x', y', a', b', c', d', e'⟩ := q v
  exact ⟨x, y', a, b, c', d', (e.trans (on_conn h ht c d a' b')).trans e'⟩
/-- Two ties that meet, and hang together without the knot where they meet. -/
def Side (E : List T) (s t : T) : Prop := ∃ k x y, s = tie k x ∧ t = tie k y ∧ x ≠ k ∧ y ≠ k ∧ Conn (lessK E k) x y
theorem Side.symm {E : List T} {s t : T} (h : Side E s t) : Side E t s := by
  obtain ⟨k, x, y, a, b, c, d, e⟩ := h
  exact ⟨k, y, x, b, a, d, c, e.symm⟩
/-- Steps from tie to tie. -/
inductive Chain (E : List T) (s : T) : T → Prop
  | refl : Chain E s s
  | step {t u : T} : Chain E s t → u ∈ E → Side E t u → Chain E s u
theorem Chain.mem {E : List T} {s t : T} (h : Chain E s t) (hs : s ∈ E) : t ∈ E := by
  cases h with
  | refl => exact hs
  | step _ h _ => exact h
/-- s is t, or a path leads over s from one end of t to the other, without t. -/
def CC (E : List T) (t s : T) : Prop := s = t ∨ ∃ w, Path (less E (· = t)) t.f0 t.f1 w ∧ s ∈ es w
theorem mem_of_es {E : List T} {a b : Int} {w : List Int} {s : T} (p : Path E a b w) (h : s ∈ es w) : s ∈ E := walk_es.1 p.walk s h
theorem CC.mem {E : List T} {s t : T} (h : CC E t s) (ht : t ∈ E) : s ∈ E := by
  rcases h with rfl | ⟨w, p, hs⟩
  · exact ht
  · exact (mem_less.1 (mem_of_es p hs)).1
/-- The first knot of a row that is one of some. -/
theorem first_in (S : List Int) : ∀ w : List Int, (∃ x ∈ w, x ∈ S) → ∃ A z B, w = A ++ z :: B ∧ z ∈ S ∧ ∀ x ∈ A, x ∉ S
  | [], h => by simp at h
  | a :: l, h => by
    by_cases ha : a ∈ S
    · exact ⟨[], a, l, rfl, ha, by simp⟩
    · obtain ⟨A, z, B, e, hz, hA⟩ := first_in S l (by
        obtain ⟨x, hx, hs⟩ := h
        rcases List.mem_cons.1 hx with rfl | hx
        · exact absurd hs ha
        · exact ⟨x, hx, hs⟩)
      refine ⟨a :: A, z, B, by rw [e]; rfl, hz, fun x hx => ?_⟩
      rcases List.mem_cons.1 hx with rfl | hx
      · exact ha
      · exact hA x hx
/-- Two knots of a row, in their order. -/
theorem two_in {w : List Int} {k z : Int} (hk : k ∈ w) (hz : z ∈ w) (hne : k ≠ z) : (∃ A M C, w = A ++ k :: (M ++ z :: C)) ∨ ∃ A M C, w = A ++ z :: (M ++ k :: C) := by
  obtain ⟨A, B, rfl⟩ := List.append_of_mem hk
  rcases List.mem_append.1 hz with h | h
  · obtain ⟨A1, A2, rfl⟩ := List.append_of_mem h
    exact Or.inr ⟨A1, A2, B, by simp⟩
  · rcases List.mem_cons.1 h with h | h
    · exact absurd h.symm hne
    · obtain ⟨B1, B2, rfl⟩ := List.append_of_mem h
      exact Or.inl ⟨A, B1, B2, rfl⟩
/-- An ear takes the place of what lies between its ends. -/
theorem ear {F : List T} {a b k z : Int} {A M C Q : List Int} (p : Path F a b (A ++ k :: (M ++ z :: C))) (q : Path F k z (k :: (Q ++ [z]))) (hQ : ∀ x ∈ Q, x ∉ A ++ k :: (M ++ z :: C)) : Path F a b (A ++ k :: (Q ++ z :: C)) := by
  have p1 : Path F a k (A ++ [k]) := p.take
  have p2 : Path F z b (z :: C) := Path.drop (A := A ++ k :: M) (by simpa using p)
  have q2 : Path F k b (k :: (Q ++ z :: C)) := by
    have := Path.append (A := k :: Q) (B := C) (by simpa using q) p2 (fun x hx hc => by
      rcases List.mem_cons.1 hx with rfl | hx
      · have := (List.nodup_cons.1 (List.nodup_append.1 p.nd).2.1).1
        exact this (by simp [hc])
      · exact hQ x hx (by simp [hc]))
    simpa using this
  refine p1.append q2 (fun x hx hm => ?_)
  rcases List.mem_append.1 hm with h | h
  · exact hQ x h (by simp [hx])
  · exact (List.nodup_append.1 p.nd).2.2 x hx x (by
      rcases List.mem_cons.1 h with rfl | h <;> simp [*]) rfl
theorem CC.step {n : Int} {E : List T} (h : OK n E) {t e f : T} (ht : t ∈ E) (c : CC E t e) (hf : f ∈ E) (hs : Side E e f) : CC E t f := by
  by_cases hft : f = t
  · exact Or.inl hft
  obtain ⟨k, x, y, rfl, rfl, hx, hy, hc⟩ := hs
  obtain ⟨q, Q⟩ := hc.symm.path
  have hkq : k ∉ q := not_mem_off Q hy
  have hte := h.tie t ht
  have hfF : Has (less E (· = t)) k y := mem_less.2 ⟨hf, hft⟩
  rcases c with e | ⟨w, P, he⟩
  · -- the tie itself: the ring is closed by it
    have QF : Path (less E (· = t)) y x q := Q.mono (fun u hu => mem_less.2 ⟨(mem_less.1 hu).1, fun e' => (mem_less.1 hu).2 (by
      rcases tie_ends e with ⟨a, _⟩ | ⟨a, _⟩
      · exact Or.inl (by rw [e', ← a])
      · exact Or.inr (by rw [e', ← a]))⟩)
    have P := QF.consP hfF hkq
    have hm : tie k y ∈ es (k :: q) := by
      obtain ⟨r, rfl⟩ := Q.cons_eq
      simp [es]
    rcases tie_ends e with ⟨a, b⟩ | ⟨a, b⟩
    · exact Or.inr ⟨_, by rw [← a, ← b]; exact P, hm⟩
    · exact Or.inr ⟨_, by rw [← a, ← b]; exact P.rev, (mem_es_rev _ _).2 hm⟩
  · have hkw : k ∈ w := by
      obtain ⟨A, k', x', B, rfl, e'⟩ := mem_es he
      rcases tie_inj e' with ⟨a, _⟩ | ⟨_, b⟩
      · rw [← a]; simp
      · rw [← b]; simp
    have hxw : x ∈ w := by
      obtain ⟨A, k', x', B, rfl, e'⟩ := mem_es he
      rcases tie_inj e' with ⟨_, b⟩ | ⟨a, _⟩
      · rw [← b]; simp
      · rw [← a]; simp
    obtain ⟨Q1, z, Q2, rfl, hz, hQ1⟩ := first_in w q ⟨x, Q.memB, hxw⟩
    have hkz : k ≠ z := fun e' => hkq (by rw [e']; simp)
    have Q' : Path (lessK E k) y z (Q1 ++ [z]) := Q.take
    -- none of its ties is t: one end of each but the first is off the path; and the first is f
    have QF : Path (less E (· = t)) y z (Q1 ++ [z]) := by
      refine ⟨Q'.nd, walk_es.2 (fun u hu => mem_less.2 ⟨(mem_less.1 (mem_of_es Q' hu)).1, fun e' => ?_⟩), Q'.hd, Q'.lst⟩
      subst e'
      obtain ⟨A, k', x', B, e2, e3⟩ := mem_es hu
      have hk' : k' ∈ Q1 := by
        have : Q1 = A ++ k' :: (x' :: B).dropLast := by
          have h1 := congrArg List.dropLast e2
          rw [List.dropLast_concat] at h1
          rw [h1, List.dropLast_append_of_ne_nil (by simp), List.dropLast_cons_of_ne_nil (by simp)]
        rw [this]; simp
      have hoff := hQ1 k' hk'
      rcases tie_ends e3 with ⟨a, _⟩ | ⟨a, _⟩
      · exact hoff (by rw [a]; exact P.memA)
      · exact hoff (by rw [a]; exact P.memB)
    have hkQ : k ∉ Q1 ++ [z] := not_mem_off Q' hy
    have QK : Path (less E (· = t)) k z (k :: (Q1 ++ [z])) := QF.consP hfF hkQ
    have hm : ∀ C : List Int, tie k y ∈ es (k :: (Q1 ++ z :: C)) := fun C => by
      have := Q'.hd
      cases Q1 with
      | nil => simp at this; subst this; simp [es]
      | cons a r => simp at this; subst this; simp [es]
    rcases two_in hkw hz hkz with ⟨A, M, C, rfl⟩ | ⟨A, M, C, rfl⟩
    · refine Or.inr ⟨_, ear P QK hQ1, ?_⟩
      rw [es_app]
      exact List.mem_append.2 (Or.inr (hm C))
    · have P' : Path (less E (· = t)) t.f1 t.f0 (C.reverse ++ k :: (M.reverse ++ z :: A.reverse)) := by
        have := P.rev
        simpa using this
      have R := ear P' QK (fun x hx hn => hQ1 x hx (by
        simp only [List.mem_append, List.mem_cons, List.mem_reverse] at hn ⊢
        rcases hn with a | a | a | a | a <;> simp [a]))
      refine Or.inr ⟨_, R.rev, (mem_es_rev _ _).2 ?_⟩
      rw [es_app]
      exact List.mem_append.2 (Or.inr (hm A.reverse))
end Go.Proofs.Ytiamiahkjdipkaa.Th
namespace Go.Proofs.Ytiamiahkjdipkaa.Th
open Go.RowKit Go.Proofs.YtiamiahkjdipkaaW.PrintWords Go.Proofs.YtiamiahkjdipkaaW.PrintLast Go.Proofs.YtiamiahkjdipkaaW.PrintMore Go.Proofs.Ytiamiahkjdipkaa.F Classical
noncomputable def waysR (n : Int) (E : List T) (b : Int) : Nat → List Int → List (List Int)
  | 0, w => if rd w ((w.length : Int) - 1) = b then [w] else []
  | d + 1, w => if rd w ((w.length : Int) - 1) = b then [w] else (ks n).flatMap (fun k => if Has E (rd w ((w.length : Int) - 1)) k ∧ k ∉ w then waysR n E b d (w ++ [k]) else [])
theorem flatMap_length_le {α β : Type} (f : α → List β) (m : Nat) : ∀ l : List α, (∀ x ∈ l, (f x).length ≤ m) → (l.flatMap f).length ≤ l.length * m
  | [], _ => by simp
  | x :: l, h => by
    rw [List.flatMap_cons, List.length_append, List.length_cons, Nat.succ_mul]
    have := h x (by simp)
    have := flatMap_length_le f m l (fun y hy => h y (List.mem_cons_of_mem _ hy))
    omega
theorem waysR_length {n : Int} (hn : n ≤ 8) (E : List T) (b : Int) : ∀ (d : Nat) (w : List Int), (waysR n E b d w).length ≤ 8 ^ d := by
  intro d
  induction d with
  | zero => intro w; simp only [waysR]; split <;> simp
  | succ d ih =>
    intro w
    simp only [waysR]
    split
    · have : 1 ≤ 8 ^ (d + 1) := Nat.pos_of_ne_zero (by simp)
      simpa using this
    · have h1 := flatMap_length_le (fun k => if Has E (rd w ((w.length : Int) - 1)) k ∧ k ∉ w then waysR n E b d (w ++ [k]) else []) (8 ^ d) (ks n) (fun k _ => by
        split
        · exact ih _
        · simp)
      have h2 : (ks n).length ≤ 8 := by rw [ks_length]; omega
      have h3 : (ks n).length * 8 ^ d ≤ 8 * 8 ^ d := Nat.mul_le_mul_right _ h2
      rw [Nat.pow_succ]
      omega
theorem nodup_in_length {n : Int} {w : List Int} (hn : w.Nodup) (hi : ∀ x ∈ w, In n x) : w.length ≤ n.toNat := by
  have h := List.Nodup.length_le_of_subset hn (l₂ := ks n) (fun x hx => mem_ks.2 (hi x hx))
  rwa [ks_length] at h
theorem nodup_snoc {w : List Int} {k : Int} (hn : w.Nodup) (hk : k ∉ w) : (w ++ [k]).Nodup := by
  unfold List.Nodup at *
  rw [List.pairwise_append]
  exact ⟨hn, by simp, fun x hx y hy e => hk (by rw [List.mem_singleton] at hy; subst hy; subst e; exact hx)⟩
theorem ev_ways {n : Int} {E : List T} {b : Int} (h : OK n E) : ∀ (d : Nat) (w : List Int) (out : List (List Int)), w.Nodup → w ≠ [] → (∀ x ∈ w, In n x) → w.length + d = n.toNat → out.length + 8 ^ d ≤ 1000000000 →
    Ev (fun k => impl_Net_ways.f k n E w b out) (out ++ waysR n E b d w) := by
  have hE := h.length
  have h8 := h.n8
  intro d
  induction d with
  | zero =>
    intro w out hn hw hi hd ho
    have hl : 0 < w.length := List.length_pos_iff.2 hw
    have hl8 : w.length ≤ 8 := by omega
    refine Ev.succ ?_
    simp only [impl_Net_ways.f]
    rw [w64 (by omega)]
    refine Ev.pos (by omega) (Ev.pos (by omega) ?_)
    simp only [waysR]
    by_cases e : rd w ((w.length : Int) - 1) = b
    · rw [if_pos e]
      refine Ev.pos e ?_
      refine Ev.bind0 (a := w) (by unfold slices_Clone_int_int.f; rw [if_pos (by omega)]) ?_
      refine Ev.pos (by omega) ?_
      exact Ev.now _
    · rw [if_neg e, List.append_nil]
      refine Ev.neg e ?_
      suffices hs : ∀ (m : Nat) (i : Int), 0 ≤ i → i + m = n → Ev (fun k => impl_Net_ways.l0 k w b out (rd w ((w.length : Int) - 1)) n i n E) out from hs n.toNat 0 (by omega) (by omega)
      intro m
      induction m with
      | zero =>
        intro i h0 hi'
        refine Ev.succ ?_
        simp only [impl_Net_ways.l0]
        exact Ev.neg (by omega) (Ev.now _)
      | succ m ihm =>
        intro i h0 hi'
        have hin : i ∈ w := by
          refine Classical.byContradiction (fun hni => ?_)
          have := nodup_in_length (n := n) (nodup_snoc hn hni) (fun x hx => by
            rw [List.mem_append, List.mem_singleton] at hx
            rcases hx with hx | hx
            · exact hi x hx
            · subst hx; exact ⟨h0, by omega⟩)
          rw [List.length_append, List.length_singleton] at this
          omega
        have hnext : Ev (fun k => impl_Net_ways.j1 k w b out (rd w ((w.length : Int) - 1)) i n i false n E) out := by
          refine Ev.succ ?_
          simp only [impl_Net_ways.j1]
          refine Ev.neg (by simp) ?_
          rw [w64 (by omega)]
          exact ihm (i + 1) (by omega) (by omega)
        refine Ev.succ ?_
        simp only [impl_Net_ways.l0]
        refine Ev.pos (by omega) ?_
        refine Ev.bind (ev_has n E (rd w ((w.length : Int) - 1)) i (by omega)) ?_
        by_cases hh : Has E (rd w ((w.length : Int) - 1)) i
        · rw [dec_t hh]
          refine Ev.pos rfl ?_
          refine Ev.bind (ev_containsInt w i (by omega)) ?_
          rw [dec_t hin]
          exact hnext
        · rw [dec_f hh]
          exact Ev.neg (by simp) hnext
  | succ d ih =>
    intro w out hn hw hi hd ho
    have hl : 0 < w.length := List.length_pos_iff.2 hw
    have hl8 : w.length ≤ 8 := by omega
    have hp : 8 ^ (d + 1) = 8 * 8 ^ d := by rw [Nat.pow_succ]; omega
    have hp1 : 1 ≤ 8 ^ d := Nat.pos_of_ne_zero (by simp)
    refine Ev.succ ?_
    simp only [impl_Net_ways.f]
    rw [w64 (by omega)]
    refine Ev.pos (by omega) (Ev.pos (by omega) ?_)
    simp only [waysR]
    by_cases e : rd w ((w.length : Int) - 1) = b
    · rw [if_pos e]
      refine Ev.pos e ?_
      refine Ev.bind0 (a := w) (by unfold slices_Clone_int_int.f; rw [if_pos (by omega)]) ?_
      refine Ev.pos (by omega) ?_
      exact Ev.now _
    · rw [if_neg e]
      refine Ev.neg e ?_
      have hloop : ∀ (m : Nat) (i : Int) (o : List (List Int)), 0 ≤ i → i + m = n → o.length + m * 8 ^ d ≤ 1000000000 → Ev (fun k => impl_Net_ways.l0 k w b o (rd w ((w.length : Int) - 1)) n i n E) (o ++ (ksFrom n i).flatMap (fun k => if Has E (rd w ((w.length : Int) - 1)) k ∧ k ∉ w then waysR n E b d (w ++ [k]) else [])) := by
        intro m
        induction m with
        | zero =>
          intro i o h0 hi' _
          refine Ev.succ ?_
          simp only [impl_Net_ways.l0]
          rw [ksFrom_end (by omega)]
          simp only [List.flatMap_nil, List.append_nil]
          exact Ev.neg (by omega) (Ev.now _)
        | succ m ihm =>
          intro i o h0 hi' hb
          have hb' : o.length + (m * 8 ^ d + 8 ^ d) ≤ 1000000000 := by rw [Nat.succ_mul] at hb; exact hb
          rw [ksFrom_cons h0 (by omega), List.flatMap_cons]
          have hskip : Ev (fun k => impl_Net_ways.j1 k w b o (rd w ((w.length : Int) - 1)) i n i false n E) (o ++ (ksFrom n (i + 1)).flatMap (fun k => if Has E (rd w ((w.length : Int) - 1)) k ∧ k ∉ w then waysR n E b d (w ++ [k]) else [])) := by
            refine Ev.succ ?_
            simp only [impl_Net_ways.j1]
            refine Ev.neg (by simp) ?_
            rw [w64 (by omega)]
            exact ihm (i + 1) o (by omega) (by omega) (by omega)
          refine Ev.succ ?_
          simp only [impl_Net_ways.l0]
          refine Ev.pos (by omega) ?_
          refine Ev.bind (ev_has n E (rd w ((w.length : Int) - 1)) i (by omega)) ?_
          by_cases hh : Has E (rd w ((w.length : Int) - 1)) i
          · rw [dec_t hh]
            refine Ev.pos rfl ?_
            refine Ev.bind (ev_containsInt w i (by omega)) ?_
            by_cases hin : i ∈ w
            · rw [dec_t hin, if_neg (fun k => k.2 hin), List.nil_append]
              exact hskip
            · rw [dec_f hin, if_pos ⟨hh, hin⟩]
              refine Ev.succ ?_
              simp only [impl_Net_ways.j1]
              refine Ev.pos rfl ?_
              refine Ev.bind0 (a := w) (by unfold slices_Clone_int_int.f; rw [if_pos (by omega)]) ?_
              refine Ev.bind0 (a := [i]) rfl ?_
              refine Ev.pos (by simp; omega) ?_
              have hl1 := waysR_length (n := n) (by omega) E b d (w ++ [i])
              refine Ev.bind (ih (w ++ [i]) o (nodup_snoc hn hin) (by simp) (fun x hx => ?_) (by simp; omega) (by omega)) ?_
              · rw [List.mem_append, List.mem_singleton] at hx
                rcases hx with hx | hx
                · exact hi x hx
                · subst hx; exact ⟨h0, by omega⟩
              · rw [w64 (by omega), ← List.append_assoc]
                exact ihm (i + 1) _ (by omega) (by omega) (by rw [List.length_append]; omega)
          · rw [dec_f hh, if_neg (fun k => hh k.1), List.nil_append]
            exact Ev.neg (by simp) hskip
      have := hloop n.toNat 0 out (by omega) (by omega) (by
        have : n.toNat * 8 ^ d ≤ 8 * 8 ^ d := Nat.mul_le_mul_right _ (by omega)
        omega)
      rw [ksFrom_zero] at this
      exact this
theorem rd_last_eq {w : List Int} {a : Int} {r : List Int} (e : w = r ++ [a]) : rd w ((w.length : Int) - 1) = a := by
  subst e
  rw [show (((r ++ [a]).length : Int) - 1) = ((r.length : Nat) : Int) by simp, rd_nat]
  simp
theorem mem_waysR {n : Int} {E : List T} {b : Int} (h : OK n E) : ∀ (d : Nat) (r : List Int) (a : Int) (u : List Int), (r ++ [a]).Nodup → (∀ x ∈ r ++ [a], In n x) → r.length + 1 + d = n.toNat →
    (u ∈ waysR n E b d (r ++ [a]) ↔ ∃ v, u = r ++ v ∧ u.Nodup ∧ Path E a b v) := by
  intro d
  induction d with
  | zero =>
    intro r a u hn hi hd
    simp only [waysR]
    rw [rd_last_eq rfl]
    constructor
    · intro hu
      split at hu
      · next e =>
        subst e
        rw [List.mem_singleton] at hu
        subst hu
        exact ⟨[a], rfl, hn, Path.single E a⟩
      · exact absurd hu (by simp)
    · rintro ⟨v, rfl, hnd, p⟩
      obtain ⟨s, rfl⟩ := p.cons_eq
      cases s with
      | nil =>
        have hb : a = b := by have := p.lst; simpa using this
        rw [if_pos hb]
        simp
      | cons c s =>
        exfalso
        have hc : In n c := (h.has p.walk.1).2.1
        have hcn : c ∉ r ++ [a] := by
          intro hc'
          rw [show r ++ a :: c :: s = (r ++ [a]) ++ c :: s by simp] at hnd
          exact (List.nodup_append.1 hnd).2.2 c hc' c (by simp) rfl
        have := nodup_in_length (n := n) (nodup_snoc hn hcn) (fun x hx => by
          rw [List.mem_append, List.mem_singleton] at hx
          rcases hx with hx | hx
          · exact hi x hx
          · subst hx; exact hc)
        simp at this
        omega
  | succ d ih =>
    intro r a u hn hi hd
    simp only [waysR]
    rw [rd_last_eq rfl]
    constructor
    · intro hu
      split at hu
      · next e =>
        subst e
        rw [List.mem_singleton] at hu
        subst hu
        exact ⟨[a], rfl, hn, Path.single E a⟩
      · obtain ⟨k, hk, hu⟩ := List.mem_flatMap.1 hu
        split at hu
        · next hc =>
          have hkn := mem_ks.1 hk
          obtain ⟨v, e, hnd, p⟩ := (ih (r ++ [a]) k u (nodup_snoc hn hc.2) (fun x hx => by
            rw [List.mem_append, List.mem_singleton] at hx
            rcases hx with hx | hx
            · exact hi x hx
            · subst hx; exact hkn) (by simp; omega)).1 hu
          refine ⟨a :: v, by rw [e]; simp, hnd, p.consP hc.1 (fun ha => ?_)⟩
          rw [e] at hnd
          exact (List.nodup_append.1 hnd).2.2 a (by simp) a ha rfl
        · exact absurd hu (by simp)
    · rintro ⟨v, rfl, hnd, p⟩
      obtain ⟨s, rfl⟩ := p.cons_eq
      cases s with
      | nil =>
        have hb : a = b := by have := p.lst; simpa using this
        rw [if_pos hb]
        simp
      | cons c s =>
        have hcn : c ∉ r ++ [a] := by
          intro hc'
          rw [show r ++ a :: c :: s = (r ++ [a]) ++ c :: s by simp] at hnd
          exact (List.nodup_append.1 hnd).2.2 c hc' c (by simp) rfl
        have hab : a ≠ b := by
          intro e
          have hb := p.lst
          rw [List.getLast?_cons_cons] at hb
          have := List.mem_of_getLast? hb
          have hx := p.nd
          rw [List.nodup_cons] at hx
          exact hx.1 (e ▸ this)
        rw [if_neg hab]
        have hc : In n c := (h.has p.walk.1).2.1
        refine List.mem_flatMap.2 ⟨c, mem_ks.2 hc, ?_⟩
        rw [if_pos ⟨p.walk.1, hcn⟩]
        refine (ih (r ++ [a]) c _ (nodup_snoc hn hcn) (fun x hx => by
            rw [List.mem_append, List.mem_singleton] at hx
            rcases hx with hx | hx
            · exact hi x hx
            · subst hx; exact hc) (by simp; omega)).2 ⟨c :: s, by simp, hnd, ?_⟩
        exact Path.drop (A := [a]) p
theorem waysR_nodup {n : Int} {E : List T} {b : Int} (h : OK n E) : ∀ (d : Nat) (r : List Int) (a : Int), (r ++ [a]).Nodup → (∀ x ∈ r ++ [a], In n x) → r.length + 1 + d = n.toNat → (waysR n E b d (r ++ [a])).Nodup := by
  intro d
  induction d with
  | zero => intro r a _ _ _; simp only [waysR]; split <;> simp
  | succ d ih =>
    intro r a hn hi hd
    simp only [waysR]
    split
    · simp
    · have hup : ∀ k ∈ ks n, k ∉ r ++ [a] → (∀ x ∈ r ++ [a] ++ [k], In n x) := fun k hk _ x hx => by
        rw [List.mem_append, List.mem_singleton] at hx
        rcases hx with hx | hx
        · exact hi x hx
        · subst hx; exact mem_ks.1 hk
      unfold List.Nodup
      rw [List.pairwise_flatMap]
      refine ⟨fun k hk => ?_, ?_⟩
      · split
        · next hc => exact ih (r ++ [a]) k (nodup_snoc hn hc.2) (hup k hk hc.2) (by simp; omega)
        · simp
      · refine (List.Pairwise.and_mem.1 (ks_nodup n)).imp ?_
        rintro k k' ⟨hk, hk', hne⟩ u hu u' hu' e
        subst e
        split at hu
        · next hc =>
          split at hu'
          · next hc' =>
            obtain ⟨v, e1, _, p1⟩ := (mem_waysR h d (r ++ [a]) k u (nodup_snoc hn hc.2) (hup k hk hc.2) (by simp; omega)).1 hu
            obtain ⟨v', e2, _, p2⟩ := (mem_waysR h d (r ++ [a]) k' u (nodup_snoc hn hc'.2) (hup k' hk' hc'.2) (by simp; omega)).1 hu'
            rw [e1] at e2
            have := List.append_cancel_left e2
            subst this
            have e3 := p1.hd.symm.trans p2.hd
            injection e3 with e3
            exact hne e3
          · exact absurd hu' (by simp)
        · exact absurd hu (by simp)
noncomputable def allW (n : Int) (E : List T) (a b : Int) : List (List Int) := sortW (waysR n E b (n.toNat - 1) [a])
theorem mem_allW {n : Int} {E : List T} {a b : Int} (h : OK n E) (ha : In n a) {w : List Int} : w ∈ allW n E a b ↔ Path E a b w := by
  unfold allW
  rw [(sortW_perm _).mem_iff, show [a] = [] ++ [a] from rfl, mem_waysR h (n.toNat - 1) [] a w (by simp) (by simpa using ha) (by simp; have := ha.1; have := ha.2; omega)]
  exact ⟨fun ⟨v, e, _, p⟩ => by rw [e]; exact p, fun p => ⟨w, rfl, p.nd, p⟩⟩
theorem allW_nodup {n : Int} {E : List T} {a b : Int} (h : OK n E) (ha : In n a) : (allW n E a b).Nodup := by
  unfold allW
  rw [(sortW_perm _).nodup_iff]
  exact waysR_nodup h (n.toNat - 1) [] a (by simp) (by simpa using ha) (by simp; have := ha.1; have := ha.2; omega)
theorem Path.len {n : Int} {E : List T} {a b : Int} {w : List Int} (h : OK n E) (ha : In n a) (p : Path E a b w) : w.length ≤ 8 := by
  have := nodup_in_length (n := n) p.nd (fun x hx => (p.conn_mem hx).inNet h ha)
  have := h.n8
  omega
theorem allW_len {n : Int} {E : List T} {a b : Int} (h : OK n E) (ha : In n a) : (allW n E a b).length ≤ 1000000000 ∧ ∀ w ∈ allW n E a b, w.length ≤ 8 := by
  refine ⟨?_, fun w hw => ((mem_allW h ha).1 hw).len h ha⟩
  unfold allW
  rw [(sortW_perm _).length_eq]
  have h1 := waysR_length (n := n) (by have := h.n8; omega) E b (n.toNat - 1) [a]
  have h2 : 8 ^ (n.toNat - 1) ≤ 8 ^ 7 := Nat.pow_le_pow_right (by omega) (by have := h.n8; omega)
  have h3 : (8 : Nat) ^ 7 ≤ 1000000000 := by decide
  omega
theorem ev_all {n : Int} {E : List T} {a b : Int} (h : OK n E) (ha : In n a) : Ev (fun k => impl_Net_all.f k n E a b) (allW n E a b) := by
  have hw := ev_ways (b := b) h (n.toNat - 1) [a] [] (by simp) (by simp) (by simpa using ha) (by simp; have := ha.1; have := ha.2; omega) (by
    have h2 : 8 ^ (n.toNat - 1) ≤ 8 ^ 7 := Nat.pow_le_pow_right (by omega) (by have := h.n8; omega)
    have h3 : (8 : Nat) ^ 7 ≤ 1000000000 := by decide
    simp only [List.length_nil]
    omega)
  rw [List.nil_append] at hw
  simp only [impl_Net_all.f]
  refine Ev.bind hw ?_
  have hl := allW_len (b := b) h ha
  unfold allW at hl
  rw [(sortW_perm _).length_eq] at hl
  exact Ev.pos ⟨by omega, fun x hx => by have := hl.2 x ((sortW_perm _).mem_iff.2 hx); omega⟩ (Ev.now _)
end Go.Proofs.Ytiamiahkjdipkaa.Th
namespace Go.Proofs.Ytiamiahkjdipkaa.Th
open Go.RowKit Go.Proofs.YtiamiahkjdipkaaW.PrintWords Go.Proofs.YtiamiahkjdipkaaW.PrintLast Go.Proofs.YtiamiahkjdipkaaW.PrintMore Go.Proofs.Ytiamiahkjdipkaa.F
noncomputable def nextL (n : Int) (E : List T) (v : Int) : List Int := (ks n).filter (fun c => dec (Has E v c))
theorem mem_nextL {n : Int} {E : List T} {v c : Int} : c ∈ nextL n E v ↔ In n c ∧ Has E v c := by
  unfold nextL
  rw [List.mem_filter, mem_ks, dec_iff]
  exact Iff.rfl
/-- What holds of a search for all that is come to: what is seen, and what waits. -/
structure Srch (n : Int) (E : List T) (a : Int) (seen : List Bool) (row : List Int) (at_ : Int → Prop) : Prop where
  len : seen.length = n.toNat
  ok : ∀ x, In n x → rdOf false seen x = true → Conn E a x
  rows : ∀ x ∈ row, In n x ∧ rdOf false seen x = true
  shut : ∀ x, In n x → rdOf false seen x = true → x ∈ row ∨ at_ x ∨ ∀ c, In n c → Has E x c → rdOf false seen c = true
  self : rdOf false seen a = true
theorem Srch.done {n : Int} {E : List T} {a : Int} {seen : List Bool} (h : OK n E) (ha : In n a) (s : Srch n E a seen [] (fun _ => False)) : seen = reachL n E a := by
  refine ext_rdB (by rw [s.len]; unfold reachL; rw [List.length_map, ks_length]) (fun x h0 hx => ?_)
  rw [s.len] at hx
  have hx' : In n x := ⟨h0, by omega⟩
  unfold reachL
  rw [rdB_mapks n _ x h0 hx'.2]
  refine dec_of ⟨s.ok x hx', fun hc => ?_⟩
  have := hc.keeps (P := fun y => In n y ∧ rdOf false seen y = true) (fun b c m k => ⟨(h.has m).2.1, ?_⟩) ⟨ha, s.self⟩
  · exact this.2
  · rcases s.shut b k.1 k.2 with e | e | e
    · simp at e
    · exact e.elim
    · exact e c (h.has m).2.1 m
end Go.Proofs.Ytiamiahkjdipkaa.Th
namespace Go.Proofs.Ytiamiahkjdipkaa.Th
open Go.RowKit Go.Proofs.YtiamiahkjdipkaaW.PrintWords Go.Proofs.YtiamiahkjdipkaaW.PrintLast Go.Proofs.YtiamiahkjdipkaaW.PrintMore Go.Proofs.Ytiamiahkjdipkaa.F Classical
/-- All ways of d ties more that go on from one to b. -/
noncomputable def onR (n : Int) (E : List T) (b : Int) : Nat → List Int → List (List Int)
  | 0, w => if rd w ((w.length : Int) - 1) = b then [w] else []
  | d + 1, w => if rd w ((w.length : Int) - 1) = b then [] else (nextL n E (rd w ((w.length : Int) - 1))).flatMap (fun k => if k ∈ w then [] else onR n E b d (w ++ [k]))
theorem onR_pre (n : Int) (E : List T) (b : Int) : ∀ (d : Nat) (w u : List Int), u ∈ onR n E b d w → ∃ s, u = w ++ s ∧ s.length = d
  | 0, w, u, h => by
    simp only [onR] at h
    split at h
    · rw [List.mem_singleton] at h
      exact ⟨[], by rw [h]; simp, rfl⟩
    · exact absurd h (by simp)
  | d + 1, w, u, h => by
    simp only [onR] at h
    split at h
    · exact absurd h (by simp)
    · obtain ⟨k, _, hu⟩ := List.mem_flatMap.1 h
      split at hu
      · exact absurd hu (by simp)
      · obtain ⟨s, rfl, hs⟩ := onR_pre n E b d (w ++ [k]) u hu
        exact ⟨k :: s, by simp, by simp [hs]⟩
theorem ltL_app {l m : List Int} (h : ltL l m) : ∀ w : List Int, ltL (w ++ l) (w ++ m)
  | [] => h
  | a :: w => by
    rw [List.cons_append, List.cons_append]
    unfold ltL
    exact Or.inr ⟨rfl, ltL_app h w⟩
theorem nextL_sorted (n : Int) (E : List T) (v : Int) : (nextL n E v).Pairwise (· < ·) := (ks_pairwise n).filter _
theorem onR_sorted (n : Int) (E : List T) (b : Int) : ∀ (d : Nat) (w : List Int), (onR n E b d w).Pairwise ltW
  | 0, w => by simp only [onR]; split <;> simp
  | d + 1, w => by
    simp only [onR]
    split
    · simp
    · rw [List.pairwise_flatMap]
      refine ⟨fun k _ => ?_, (nextL_sorted n E _).imp ?_⟩
      · split
        · simp
        · exact onR_sorted n E b d (w ++ [k])
      · intro k k' hlt u hu u' hu'
        split at hu
        · exact absurd hu (by simp)
        · split at hu'
          · exact absurd hu' (by simp)
          · obtain ⟨s, rfl, hs⟩ := onR_pre n E b d _ _ hu
            obtain ⟨s', rfl, hs'⟩ := onR_pre n E b d _ _ hu'
            refine Or.inr ⟨by simp [hs, hs'], ?_⟩
            rw [List.append_assoc, List.append_assoc]
            exact ltL_app (by rw [List.singleton_append, List.singleton_append]; unfold ltL; exact Or.inl hlt) w
theorem mem_onR {n : Int} {E : List T} {b : Int} (h : OK n E) : ∀ (d : Nat) (r : List Int) (a : Int) (u : List Int), (r ++ [a]).Nodup →
    (u ∈ onR n E b d (r ++ [a]) ↔ ∃ v, u = r ++ v ∧ u.Nodup ∧ Path E a b v ∧ v.length = d + 1) := by
  intro d
  induction d with
  | zero =>
    intro r a u hn
    simp only [onR]
    rw [rd_last_eq rfl]
    constructor
    · intro hu
      split at hu
      · next e =>
        subst e
        rw [List.mem_singleton] at hu
        subst hu
        exact ⟨[a], rfl, hn, Path.single E a, rfl⟩
      · exact absurd hu (by simp)
    · rintro ⟨v, rfl, hnd, p, hl⟩
      obtain ⟨s, rfl⟩ := p.cons_eq
      obtain rfl : s = [] := List.eq_nil_of_length_eq_zero (by simpa using hl)
      have hb : a = b := by have := p.lst; simpa using this
      rw [if_pos hb]
      simp
  | succ d ih =>
    intro r a u hn
    simp only [onR]
    rw [rd_last_eq rfl]
    constructor
    · intro hu
      split at hu
      · exact absurd hu (by simp)
      · obtain ⟨k, hk, hu⟩ := List.mem_flatMap.1 hu
        split at hu
        · exact absurd hu (by simp)
        · next hc =>
          obtain ⟨v, e, hnd, p, hl⟩ := (ih (r ++ [a]) k u (nodup_snoc hn hc)).1 hu
          refine ⟨a :: v, by rw [e]; simp, hnd, p.consP (mem_nextL.1 hk).2 (fun ha => ?_), by rw [List.length_cons, hl]⟩
          rw [e] at hnd
          exact (List.nodup_append.1 hnd).2.2 a (by simp) a ha rfl
    · rintro ⟨v, rfl, hnd, p, hl⟩
      obtain ⟨s, rfl⟩ := p.cons_eq
      cases s with
      | nil => simp at hl
      | cons c s =>
        have hcn : c ∉ r ++ [a] := by
          intro hc'
          rw [show r ++ a :: c :: s = (r ++ [a]) ++ c :: s by simp] at hnd
          exact (List.nodup_append.1 hnd).2.2 c hc' c (by simp) rfl
        have hab : a ≠ b := by
          intro e
          have hb := p.lst
          rw [List.getLast?_cons_cons] at hb
          have := List.mem_of_getLast? hb
          have hx := p.nd
          rw [List.nodup_cons] at hx
          exact hx.1 (e ▸ this)
        rw [if_neg hab]
        have hc : In n c := (h.has p.walk.1).2.1
        refine List.mem_flatMap.2 ⟨c, mem_nextL.2 ⟨hc, p.walk.1⟩, ?_⟩
        rw [if_neg hcn]
        refine (ih (r ++ [a]) c _ (nodup_snoc hn hcn)).2 ⟨c :: s, by simp, hnd, ?_, by simpa using hl⟩
        exact Path.drop (A := [a]) p
/-- The reference's list. -/
noncomputable def specAll (n : Int) (E : List T) (a b : Int) : List (List Int) := (List.range n.toNat).flatMap (fun i => onR n E b i [a])
theorem specAll_sorted (n : Int) (E : List T) (a b : Int) : (specAll n E a b).Pairwise ltW := by
  unfold specAll
  rw [List.pairwise_flatMap]
  refine ⟨fun i _ => onR_sorted n E b i [a], List.pairwise_lt_range.imp ?_⟩
  intro i j hij u hu v hv
  obtain ⟨s, rfl, hs⟩ := onR_pre n E b _ _ _ hu
  obtain ⟨s', rfl, hs'⟩ := onR_pre n E b _ _ _ hv
  exact Or.inl (by simp [hs, hs']; exact hij)
theorem ltW_asymm {x y : List Int} (h : ltW x y) : ¬ ltW y x := fun k => ltW_irrefl _ (ltW_trans h k)
theorem specAll_eq {n : Int} {E : List T} {a b : Int} (h : OK n E) (ha : In n a) : specAll n E a b = allW n E a b := by
  have hs := specAll_sorted n E a b
  have hn : (specAll n E a b).Nodup := hs.imp (fun k e => by subst e; exact ltW_irrefl _ k)
  refine sortedW_unique (l := specAll n E a b) (m := allW n E a b) ((List.perm_ext_iff_of_nodup hn (allW_nodup h ha)).2 (fun u => ?_)) (hs.imp (fun k => ltW_asymm k)) ?_
  · rw [mem_allW h ha]
    unfold specAll
    rw [List.mem_flatMap]
    constructor
    · rintro ⟨i, _, hu⟩
      obtain ⟨v, e, _, p, _⟩ := (mem_onR h i [] a u (by simp)).1 hu
      rw [e]; exact p
    · intro p
      have hl := nodup_in_length (n := n) p.nd (fun x hx => (p.conn_mem hx).inNet h ha)
      have h1 : 0 < u.length := List.length_pos_iff.2 p.ne
      exact ⟨u.length - 1, List.mem_range.2 (by omega), (mem_onR h _ [] a u (by simp)).2 ⟨u, rfl, p.nd, p, by omega⟩⟩
  · unfold allW
    exact sortW_sorted _
theorem allW_sorted {n : Int} {E : List T} {a b : Int} (h : OK n E) (ha : In n a) : (allW n E a b).Pairwise ltW := by
  rw [← specAll_eq h ha]; exact specAll_sorted n E a b
/-- Two lists in order that hold the same are the same. -/
theorem sorted_ext {l m : List (List Int)} (hl : l.Pairwise ltW) (hm : m.Pairwise ltW) (h : ∀ u, u ∈ l ↔ u ∈ m) : l = m := by
  refine sortedW_unique ((List.perm_ext_iff_of_nodup (hl.imp (fun k e => by subst e; exact ltW_irrefl _ k)) (hm.imp (fun k e => by subst e; exact ltW_irrefl _ k))).2 h) (hl.imp (fun k => ltW_asymm k)) (hm.imp (fun k => ltW_asymm k))
/-- Of each knot: how many ties lead from there to b; less than 0 if none do. -/
structure Far (n : Int) (E : List T) (b : Int) (far : List Int) : Prop where
  len : far.length = n.toNat
  zero : rd far b = 0
  down : ∀ x, In n x → 0 ≤ rd far x → x = b ∨ ∃ c, Has E x c ∧ 0 ≤ rd far c ∧ rd far x = rd far c + 1
  step : ∀ x c, Has E x c → 0 ≤ rd far x → 0 ≤ rd far c ∧ rd far c ≤ rd far x + 1
theorem Far.le {n : Int} {E : List T} {b : Int} {far : List Int} (f : Far n E b far) : ∀ (q : List Int) (x : Int), Path E x b q → 0 ≤ rd far x ∧ rd far x + 1 ≤ q.length
  | [], _, p => absurd rfl p.ne
  | [y], x, p => by
    have h := p.hd; have l := p.lst
    simp at h l
    subst h; subst l
    rw [f.zero]; simp
  | y :: c :: s, x, p => by
    have h := p.hd
    simp at h
    subst h
    have ih := f.le (c :: s) c (Path.drop (A := [y]) p)
    have hs := f.step c y (Has.symm p.walk.1) ih.1
    refine ⟨hs.1, ?_⟩
    have := ih.2
    simp only [List.length_cons] at this ⊢
    omega
/-- The first of all ways. -/
noncomputable def firstW (n : Int) (E : List T) (a b : Int) : List Int := (allW n E a b).headD []
theorem firstW_path {n : Int} {E : List T} {a b : Int} (h : OK n E) (ha : In n a) (hc : Conn E a b) : Path E a b (firstW n E a b) := by
  obtain ⟨w, p⟩ := hc.path
  have hw := (mem_allW h ha).2 p
  unfold firstW
  cases e : allW n E a b with
  | nil => rw [e] at hw; simp at hw
  | cons x l => exact (mem_allW h ha).1 (by rw [e]; simp)
end Go.Proofs.Ytiamiahkjdipkaa.Th
namespace Go.Proofs.Ytiamiahkjdipkaa.Th
open Go.RowKit Go.Proofs.YtiamiahkjdipkaaW.PrintWords Go.Proofs.YtiamiahkjdipkaaW.PrintLast Go.Proofs.YtiamiahkjdipkaaW.PrintMore Go.Proofs.Ytiamiahkjdipkaa.F
theorem rd_head {w : List Int} (h : w ≠ []) : w.head? = some (rd w 0) := by
  cases w with
  | nil => exact absurd rfl h
  | cons a r => rfl
theorem rd_last {w : List Int} (h : w ≠ []) : w.getLast? = some (rd w ((w.length : Int) - 1)) := by
  have hp : 0 < w.length := List.length_pos_iff.2 h
  rw [show ((w.length : Int) - 1) = ((w.length - 1 : Nat) : Int) by omega, rd_getElem w (w.length - 1) (by omega), List.getLast?_eq_getElem?, List.getElem?_eq_getElem (by omega)]
theorem Path.inn {n : Int} {E : List T} (h : OK n E) {a b : Int} (ha : In n a) {w : List Int} (p : Path E a b w) {x : Int} (hx : x ∈ w) : In n x := (p.conn_mem hx).inNet h ha
theorem Leads.path {n : Int} {E : List T} {a b : Int} {w : List Int} (h : Leads n E a b w) : Path E a b w := by
  obtain ⟨_, ⟨h0, _, h2, h3⟩, h4, h5⟩ := h
  exact ⟨h2, h3, by rw [rd_head h0, h4], by rw [rd_last h0, h5]⟩
/-- What a path's inner knots are. -/
theorem apart_iff {E : List T} {a b : Int} {x y : List Int} (p : Path E a b x) : (∀ i : Nat, 1 ≤ i → i + 1 < x.length → rd x (i : Int) ∉ y) ↔ ∀ z ∈ x, z ∈ y → z = a ∨ z = b := by
  have hp : 0 < x.length := List.length_pos_iff.2 p.ne
  have h0 : x[0] = a := by have := p.hd; rw [List.head?_eq_getElem?, List.getElem?_eq_getElem hp] at this; exact Option.some.inj this
  have hl : x[x.length - 1] = b := by have := p.lst; rw [List.getLast?_eq_getElem?, List.getElem?_eq_getElem (by omega)] at this; exact Option.some.inj this
  constructor
  · intro h z hz hy
    obtain ⟨i, hi, rfl⟩ := List.mem_iff_getElem.1 hz
    by_cases e0 : i = 0
    · subst e0; exact Or.inl h0
    · by_cases el : i + 1 < x.length
      · exact absurd hy (by have := h i (by omega) el; rwa [rd_getElem x i hi] at this)
      · obtain rfl : i = x.length - 1 := by omega
        exact Or.inr hl
  · intro h i h1 h2 hy
    rw [rd_getElem x i (by omega)] at hy
    have hn := p.nd
    unfold List.Nodup at hn
    rw [List.pairwise_iff_getElem] at hn
    rcases h _ (List.getElem_mem _) hy with e | e
    · exact hn 0 i hp (by omega) (by omega) (h0.trans e.symm)
    · exact hn i (x.length - 1) (by omega) (by omega) (by omega) (e.trans hl.symm)
theorem on_mem_es {w : List Int} {s : T} {x : Int} (hs : s ∈ es w) (hx : On s x) : x ∈ w := by
  obtain ⟨A, k, u, B, rfl, rfl⟩ := mem_es hs
  rcases on_tie.1 hx with rfl | rfl <;> simp
/-- A path has a first and a last tie. -/
theorem Path.ties {E : List T} {a b : Int} {w : List Int} (p : Path E a b w) (hab : a ≠ b) : (∃ s ∈ es w, On s a) ∧ ∃ t ∈ es w, On t b := by
  have fst : ∀ {a b : Int} {w : List Int}, Path E a b w → a ≠ b → ∃ s ∈ es w, On s a := fun {a b w} p hab => by
    obtain ⟨r, rfl⟩ := p.cons_eq
    cases r with
    | nil => have := p.lst; simp at this; exact absurd this hab
    | cons c r => exact ⟨tie a c, by simp [es], on_tie.2 (Or.inl rfl)⟩
  refine ⟨fst p hab, ?_⟩
  obtain ⟨t, h1, h2⟩ := fst p.rev hab.symm
  exact ⟨t, (mem_es_rev _ _).1 h1, h2⟩
end Go.Proofs.Ytiamiahkjdipkaa.Th
namespace Go.Proofs.Ytiamiahkjdipkaa.Th
open Go.RowKit Go.Proofs.YtiamiahkjdipkaaW.PrintWords Go.Proofs.YtiamiahkjdipkaaW.PrintLast Go.Proofs.YtiamiahkjdipkaaW.PrintMore Go.Proofs.Ytiamiahkjdipkaa.F Classical
/-- A way that is not the tie itself does not go over it. -/
theorem path_off {E : List T} {a b : Int} {w : List Int} (p : Path E a b w) (hab : a ≠ b) (hw : w ≠ [a, b]) : Path (less E (· = tie a b)) a b w := by
  refine ⟨p.nd, walk_es.2 (fun t ht => mem_less.2 ⟨walk_es.1 p.walk t ht, fun e => ?_⟩), p.hd, p.lst⟩
  obtain ⟨A, k, x, B, rfl, hk⟩ := mem_es ht
  subst e
  have hnd := p.nd
  have hd := p.hd
  have hl := p.lst
  have hA : a = k → A = [] := fun e => by
    cases A with
    | nil => rfl
    | cons y A =>
      have : y = a := by simpa using hd
      subst this
      subst e
      simp [List.nodup_cons] at hnd
  rcases tie_inj hk with ⟨e1, e2⟩ | ⟨e1, e2⟩
  · subst e1; subst e2
    obtain rfl := hA rfl
    cases B with
    | nil => exact hw rfl
    | cons y B =>
      have hm : x ∈ y :: B := List.mem_of_getLast? (by simpa [List.getLast?_cons_cons] using hl)
      rw [List.nil_append, List.nodup_cons, List.nodup_cons] at hnd
      exact hnd.2.1 hm
  · subst e1; subst e2
    cases A with
    | nil =>
      have : k = x := by simpa using hd
      exact hab this.symm
    | cons y A =>
      have : y = x := by simpa using hd
      subst this
      simp [List.nodup_cons] at hnd
theorem path_len2 {E : List T} {a b : Int} {w : List Int} (p : Path E a b w) : w.length = 2 ↔ w = [a, b] := by
  constructor
  · intro h
    obtain ⟨r, rfl⟩ := p.cons_eq
    obtain ⟨c, rfl⟩ := List.length_eq_one_iff.1 (show r.length = 1 by simpa using h)
    have : c = b := by have := p.lst; simpa using this
    rw [this]
  · rintro rfl; rfl
/-- The inner knots of a way. -/
def inner (x : List Int) : List Int := (x.drop 1).dropLast
theorem mem_inner {E : List T} {a b z : Int} {x : List Int} (p : Path E a b x) : z ∈ inner x ↔ z ∈ x ∧ z ≠ a ∧ z ≠ b := by
  obtain ⟨r, rfl⟩ := p.cons_eq
  unfold inner
  rw [List.drop_succ_cons, List.drop_zero]
  have hn := List.nodup_cons.1 p.nd
  rcases List.eq_nil_or_concat r with e | ⟨r', c, e⟩
  · subst e
    simp only [List.dropLast_nil, List.not_mem_nil, List.mem_singleton, false_iff]
    exact fun k => k.2.1 k.1
  · rw [List.concat_eq_append] at e
    subst e
    have hc : c = b := by have := p.lst; rw [← List.cons_append, List.getLast?_concat] at this; exact Option.some.inj this
    subst hc
    have h2 := List.nodup_append.1 hn.2
    rw [List.dropLast_concat]
    constructor
    · intro h
      exact ⟨by simp [h], fun e => hn.1 (by rw [← e]; simp [h]), fun e => h2.2.2 z h c (by simp) e⟩
    · rintro ⟨h, ha, hb⟩
      rcases List.mem_cons.1 h with e | e
      · exact absurd e ha
      · rcases List.mem_append.1 e with e | e
        · exact e
        · rw [List.mem_singleton] at e; exact absurd e hb
/-- A net without what a way takes. -/
noncomputable def restE (E : List T) (x : List Int) : List T := if x.length = 2 then less E (· = tie (rd x 0) (rd x 1)) else less E (fun t => ∃ k ∈ inner x, AtK k t)
theorem OK.rest {n : Int} {E : List T} (h : OK n E) (x : List Int) : OK n (restE E x) := by
  unfold restE
  split
  · exact h.less _
  · exact h.less _
theorem apart_of {E : List T} {a b : Int} {x y : List Int} (p : Path E a b x) : Apart x y ↔ ¬ (x.length = 2 ∧ y.length = 2) ∧ ∀ z ∈ x, z ∈ y → z = a ∨ z = b := by
  unfold Apart
  rw [apart_iff p]
theorem rest_path {E : List T} {a b : Int} (hab : a ≠ b) {x y : List Int} (p : Path E a b x) : Path (restE E x) a b y ↔ Path E a b y ∧ Apart x y := by
  rw [apart_of p]
  unfold restE
  by_cases h2 : x.length = 2
  · rw [if_pos h2]
    obtain rfl := (path_len2 p).1 h2
    rw [show rd [a, b] 0 = a from rfl, show rd [a, b] 1 = b from rfl]
    constructor
    · intro q
      have q' : Path E a b y := q.mono (fun t ht => (mem_less.1 ht).1)
      refine ⟨q', fun hh => ?_, fun z hz _ => by simpa using hz⟩
      have e := (path_len2 q').1 hh.2
      subst e
      exact (mem_less.1 (q.walk.1 : Has (less E (· = tie a b)) a b)).2 rfl
    · rintro ⟨q, hn, _⟩
      exact path_off q hab (fun e => hn ⟨rfl, (path_len2 q).2 e⟩)
  · rw [if_neg h2]
    constructor
    · intro q
      refine ⟨q.mono (fun t ht => (mem_less.1 ht).1), fun hh => h2 hh.1, fun z hz hy => Classical.byContradiction (fun hc => ?_)⟩
      rw [not_or] at hc
      have hi := (mem_inner p).2 ⟨hz, hc.1, hc.2⟩
      have q' : Path (lessK E z) a b y := q.mono (fun t ht => mem_less.2 ⟨(mem_less.1 ht).1, fun k => (mem_less.1 ht).2 ⟨z, hi, k⟩⟩)
      exact not_mem_off q' (fun e => hc.1 e.symm) hy
    · rintro ⟨q, _, hi⟩
      refine ⟨q.nd, walk_es.2 (fun t ht => mem_less.2 ⟨walk_es.1 q.walk t ht, ?_⟩), q.hd, q.lst⟩
      rintro ⟨k, hk, hat⟩
      obtain ⟨k1, k2, k3⟩ := (mem_inner p).1 hk
      have hy : k ∈ y := on_mem_es ht (by rcases hat with e | e; exact Or.inl e.symm; exact Or.inr e.symm)
      rcases hi k k1 hy with e | e
      · exact k2 e
      · exact k3 e
theorem rest_conn {n : Int} {E : List T} {a b : Int} (h : OK n E) (ha : In n a) (hab : a ≠ b) {x : List Int} (p : Path E a b x) : Conn (restE E x) a b ↔ ∃ y ∈ allW n E a b, Apart x y := by
  constructor
  · intro c
    obtain ⟨y, q⟩ := c.path
    obtain ⟨q1, q2⟩ := (rest_path hab p).1 q
    exact ⟨y, (mem_allW h ha).2 q1, q2⟩
  · rintro ⟨y, hy, k⟩
    exact ((rest_path hab p).2 ⟨(mem_allW h ha).1 hy, k⟩).conn
theorem allW_rest {n : Int} {E : List T} {a b : Int} (h : OK n E) (ha : In n a) (hab : a ≠ b) {x : List Int} (p : Path E a b x) : allW n (restE E x) a b = (allW n E a b).filter (fun y => dec (Apart x y)) := by
  refine sorted_ext (allW_sorted (h.rest x) ha) ((allW_sorted h ha).filter _) (fun y => ?_)
  rw [mem_allW (h.rest x) ha, List.mem_filter, mem_allW h ha, dec_iff, rest_path hab p]
theorem firstW_rest {n : Int} {E : List T} {a b : Int} (h : OK n E) (ha : In n a) (hab : a ≠ b) {x : List Int} (p : Path E a b x) : (allW n E a b).find? (fun y => dec (Apart x y)) = if Conn (restE E x) a b then some (firstW n (restE E x) a b) else none := by
  rw [← List.head?_filter, ← allW_rest h ha hab p]
  by_cases hc : Conn (restE E x) a b
  · rw [if_pos hc]
    have := firstW_path (h.rest x) ha hc
    have hm := (mem_allW (h.rest x) ha).2 this
    unfold firstW at *
    cases e : allW n (restE E x) a b with
    | nil => rw [e] at hm; simp at hm
    | cons y l => rfl
  · rw [if_neg hc]
    cases e : allW n (restE E x) a b with
    | nil => rfl
    | cons y l => exact absurd ((mem_allW (w := y) (h.rest x) ha).1 (by rw [e]; simp)).conn hc
/-- What both TwoFinds tell. -/
noncomputable def twoFind (n : Int) (E : List T) (a b : Int) : List Int × List Int × Bool :=
  if OK n E ∧ In n a ∧ In n b ∧ a ≠ b then
    match (allW n E a b).find? (fun x => dec (Conn (restE E x) a b)) with
    | some x => (x, firstW n (restE E x) a b, true)
    | none => ([], [], false)
  else ([], [], false)
/-- Two ways that are apart. -/
def TwoW (E : List T) (a b : Int) : Prop := ∃ x y, Path E a b x ∧ Path E a b y ∧ (∀ z ∈ x, z ∈ y → z = a ∨ z = b) ∧ ¬ (x.length = 2 ∧ y.length = 2)
theorem twoFind_some {n : Int} {E : List T} {a b : Int} (h : OK n E) (ha : In n a) (hb : In n b) (hab : a ≠ b) {x : List Int} (hx : (allW n E a b).find? (fun x => dec (Conn (restE E x) a b)) = some x) :
    twoFind n E a b = (x, firstW n (restE E x) a b, true) ∧ Path E a b x ∧ Path E a b (firstW n (restE E x) a b) ∧ Apart x (firstW n (restE E x) a b) := by
  have hm := List.mem_of_find?_eq_some hx
  have hp := List.find?_some hx
  have p := (mem_allW h ha).1 hm
  have q := (rest_path hab p).1 (firstW_path (h.rest x) ha (dec_iff.1 hp))
  refine ⟨?_, p, q.1, q.2⟩
  unfold twoFind
  rw [if_pos ⟨h, ha, hb, hab⟩, hx]
theorem twoFind_none {n : Int} {E : List T} {a b : Int} (hx : (allW n E a b).find? (fun x => dec (Conn (restE E x) a b)) = none) : twoFind n E a b = ([], [], false) := by
  unfold twoFind
  rw [hx]
  split <;> rfl
theorem twoFind_not {n : Int} {E : List T} {a b : Int} (h : ¬ (OK n E ∧ In n a ∧ In n b ∧ a ≠ b)) : twoFind n E a b = ([], [], false) := by
  unfold twoFind
  rw [if_neg h]
theorem twoFind_ok {n : Int} {E : List T} {a b : Int} (h : OK n E) (ha : In n a) (hb : In n b) (hab : a ≠ b) : (twoFind n E a b).2.2 = dec (TwoW E a b) := by
  refine dec_of ?_
  cases hx : (allW n E a b).find? (fun x => dec (Conn (restE E x) a b)) with
  | none =>
    rw [twoFind_none hx]
    refine ⟨fun k => by simp at k, ?_⟩
    rintro ⟨x, y, p, q, h1, h2⟩
    have := List.find?_eq_none.1 hx x ((mem_allW h ha).2 p)
    exact absurd (dec_iff.2 ((rest_conn h ha hab p).2 ⟨y, (mem_allW h ha).2 q, (apart_of p).2 ⟨h2, h1⟩⟩)) this
  | some x =>
    obtain ⟨e, p, q, k⟩ := twoFind_some h ha hb hab hx
    rw [e]
    exact ⟨fun _ => ⟨x, _, p, q, ((apart_of p).1 k).2, ((apart_of p).1 k).1⟩, fun _ => rfl⟩
end Go.Proofs.Ytiamiahkjdipkaa.Th
namespace Go.Proofs.Ytiamiahkjdipkaa.Th
open Go.RowKit Go.Proofs.YtiamiahkjdipkaaW.PrintWords Go.Proofs.YtiamiahkjdipkaaW.PrintMore Go.Proofs.Ytiamiahkjdipkaa.F
theorem ev_disjoint (x y : List Int) (hx : 2 ≤ x.length) (hx' : x.length ≤ 1048576) (hy : y.length ≤ 1048576) : Ev (fun k => impl_disjoint.f k x y) (dec (Apart x y)) := by
  simp only [impl_disjoint.f]
  have go : ¬ (x.length = 2 ∧ y.length = 2) → Ev (fun k => impl_disjoint.j0 k x y false) (dec (Apart x y)) := fun h3 => by
    refine Ev.succ ?_
    simp only [impl_disjoint.j0]
    refine Ev.neg (by simp) ?_
    rw [w64 (by omega)]
    refine Ev.pos (by omega) (Ev.pos (by omega) ?_)
    have e1 : ((x.length : Int) - 1).toNat = x.length - 1 := by omega
    rw [e1]
    have hlen : ((x.take (x.length - 1)).drop 1).length = x.length - 2 := by simp; omega
    have hrd : ∀ i : Nat, i < x.length - 2 → rd ((x.take (x.length - 1)).drop 1) (i : Int) = rd x ((i + 1 : Nat) : Int) := fun i hi => by
      rw [rd_getElem _ i (by omega), rd_getElem _ (i + 1) (by omega)]
      simp
    have := all_loop (L := fun k i => impl_disjoint.l0 k y ((x.take (x.length - 1)).drop 1) (((x.take (x.length - 1)).drop 1).length : Int) i) (x.length - 2) (fun j => rd x ((j + 1 : Nat) : Int) ∉ y) ?_ ?_ ?_ (x.length - 2) 0 (by omega)
    · refine Ev.cast this (dec_congr ?_)
      refine ⟨fun h => ⟨h3, fun i a b => ?_⟩, fun h i a b => h.2 (i + 1) (by omega) (by omega)⟩
      have := h (i - 1) (Nat.zero_le _) (by omega)
      rwa [show i - 1 + 1 = i by omega] at this
    · refine Ev.succ ?_
      simp only [impl_disjoint.l0]
      exact Ev.neg (by omega) (Ev.now _)
    · intro i hi hp c hc
      refine Ev.succ ?_
      simp only [impl_disjoint.l0]
      refine Ev.pos (by omega) (Ev.pos (by omega) (Ev.pos (by omega) ?_))
      rw [hrd i hi]
      refine Ev.bind (ev_containsInt _ _ hy) (Ev.neg (by rw [dec_f hp]; simp) ?_)
      rw [w64 (by omega)]
      exact hc
    · intro i hi hp
      refine Ev.succ ?_
      simp only [impl_disjoint.l0]
      refine Ev.pos (by omega) (Ev.pos (by omega) (Ev.pos (by omega) ?_))
      rw [hrd i hi]
      exact Ev.bind (ev_containsInt _ _ hy) (Ev.pos (dec_t (Decidable.not_not.1 hp)) (Ev.now _))
  by_cases hx2 : (x.length : Int) = 2
  · refine Ev.pos hx2 ?_
    by_cases hy2 : (y.length : Int) = 2
    · rw [show ((y.length : Int) == 2) = true by simp [hy2]]
      refine Ev.succ ?_
      simp only [impl_disjoint.j0]
      exact Ev.pos trivial (Ev.ff (fun h => h.1 ⟨by omega, by omega⟩) (Ev.now _))
    · rw [show ((y.length : Int) == 2) = false by simp [hy2]]
      exact go (by omega)
  · exact Ev.neg hx2 (go (by omega))
end Go.Proofs.Ytiamiahkjdipkaa.Th
namespace Go.Proofs.Ytiamiahkjdipkaa.Th
open Go.RowKit Go.Proofs.YtiamiahkjdipkaaW.PrintWords Go.Proofs.YtiamiahkjdipkaaW.PrintLast Go.Proofs.YtiamiahkjdipkaaW.PrintMore Go.Proofs.Ytiamiahkjdipkaa.F
/-- Two different knots of a valid net. -/
def Two2 (n : Int) (E : List T) (a b : Int) : Prop := OK n E ∧ In n a ∧ In n b ∧ a ≠ b
theorem ev_twoKnots (n : Int) (E : List T) (a b : Int) (hE : E.length ≤ 1048576) : Ev (fun k => impl_twoKnots.f k n E a b) (dec (Two2 n E a b)) := by
  simp only [impl_twoKnots.f]
  refine Ev.bind (ev_impl_NetOk n E hE) ?_
  by_cases h : OK n E
  · refine Ev.pos (dec_t h) (Ev.bind0 (knot_eq n E a) ?_)
    by_cases ha : In n a
    · refine Ev.pos (dec_t ha) (Ev.bind0 (knot_eq n E b) ?_)
      by_cases hb : In n b
      · refine Ev.pos (dec_t hb) (Ev.some_ (dec_of ?_))
        rw [bne_iff_ne]
        exact ⟨fun k => ⟨h, ha, hb, k⟩, fun k => k.2.2.2⟩
      · exact Ev.neg (by rw [dec_f hb]; simp) (Ev.ff (fun k => hb k.2.2.1) (Ev.now _))
    · exact Ev.neg (by rw [dec_f ha]; simp) (Ev.ff (fun k => ha k.2.1) (Ev.now _))
  · exact Ev.neg (by rw [dec_f h]; simp) (Ev.ff (fun k => h k.1) (Ev.now _))
end Go.Proofs.Ytiamiahkjdipkaa.Th
namespace Go.Proofs.Ytiamiahkjdipkaa.Th
open Go.RowKit Go.Proofs.YtiamiahkjdipkaaW.PrintWords Go.Proofs.YtiamiahkjdipkaaW.PrintLast Go.Proofs.YtiamiahkjdipkaaW.PrintMore Go.Proofs.Ytiamiahkjdipkaa.F Classical
theorem rdL_nat (R : List (List Int)) (j : Nat) (hj : j < R.length) : rd_L6 R (j : Int) = R[j] := by
  unfold rd_L6
  rw [List.getD_eq_getElem?_getD, Int.toNat_natCast, List.getElem?_eq_getElem hj]
  rfl
theorem clone_eq {w : List Int} (h : w.length ≤ 8) : slices_Clone_int_int.f w = some w := by unfold slices_Clone_int_int.f; rw [if_pos (by omega)]
theorem Path.two {E : List T} {a b : Int} (hab : a ≠ b) {w : List Int} (p : Path E a b w) : 2 ≤ w.length := by
  obtain ⟨r, rfl⟩ := p.cons_eq
  cases r with
  | nil => have := p.lst; simp at this; exact absurd this hab
  | cons c r => simp
theorem ev_TwoFind_l1 {W : List (List Int)} {x : List Int} {i : Nat} {r : List Int × List Int × Bool} (hx2 : 2 ≤ x.length) (hx : x.length ≤ 8) (hW : W.length ≤ 1000000000) (hl : ∀ y ∈ W, y.length ≤ 8) (hi : i < W.length) (hk : Ev (fun k => impl_TwoFind.l0 k W W W.length ((i : Int) + 1)) r) :
    ∀ (d j : Nat), j + d = W.length → Ev (fun k => impl_TwoFind.l1 k W x W W.length i W W.length j) (match (W.drop j).find? (fun y => dec (Apart x y)) with | some y => (x, y, true) | none => r)
  | 0, j, hd => by
    rw [List.drop_of_length_le (by omega)]
    refine Ev.succ ?_
    simp only [impl_TwoFind.l1]
    refine Ev.neg (by omega) ?_
    rw [w64 (by omega)]
    exact hk
  | d + 1, j, hd => by
    have hj : j < W.length := by omega
    have ih := ev_TwoFind_l1 hx2 hx hW hl hi hk d (j + 1) (by omega)
    have hy := hl _ (List.getElem_mem hj)
    rw [List.drop_eq_getElem_cons hj, List.find?_cons]
    refine Ev.succ ?_
    simp only [impl_TwoFind.l1]
    rw [rdL_nat W j hj]
    refine Ev.pos (by omega) (Ev.pos (by omega) (Ev.pos (by omega) (Ev.bind (ev_disjoint x W[j] hx2 (by omega) (by omega)) ?_)))
    by_cases hA : Apart x W[j]
    · rw [dec_t hA]
      exact Ev.pos rfl (Ev.bind0 (clone_eq hx) (Ev.bind0 (clone_eq hy) (Ev.now _)))
    · rw [dec_f hA, w64 (by omega)]
      exact Ev.neg (by simp) (by exact_mod_cast ih)
theorem ev_TwoFind_l0 {n : Int} {E : List T} {a b : Int} (h : OK n E) (ha : In n a) (hab : a ≠ b) : ∀ (d i : Nat), i + d = (allW n E a b).length →
    Ev (fun k => impl_TwoFind.l0 k (allW n E a b) (allW n E a b) (allW n E a b).length i) (match ((allW n E a b).drop i).find? (fun x => dec (Conn (restE E x) a b)) with | some x => (x, firstW n (restE E x) a b, true) | none => ([], [], false))
  | 0, i, hd => by
    rw [List.drop_of_length_le (by omega)]
    refine Ev.succ ?_
    simp only [impl_TwoFind.l0]
    exact Ev.neg (by omega) (Ev.now _)
  | d + 1, i, hd => by
    have hi : i < (allW n E a b).length := by omega
    have ih := ev_TwoFind_l0 h ha hab d (i + 1) (by omega)
    have p := (mem_allW h ha).1 (List.getElem_mem hi)
    have hlen := allW_len (b := b) h ha
    have hfr := firstW_rest h ha hab p
    rw [List.drop_eq_getElem_cons hi, List.find?_cons]
    refine Ev.succ ?_
    simp only [impl_TwoFind.l0]
    rw [rdL_nat _ i hi]
    refine Ev.pos (by omega) (Ev.pos (by omega) (Ev.pos (by omega) ?_))
    have key := ev_TwoFind_l1 (p.two hab) (p.len h ha) hlen.1 hlen.2 hi (by exact_mod_cast ih) (allW n E a b).length 0 (by omega)
    rw [List.drop_zero, hfr] at key
    by_cases hc : Conn (restE E (allW n E a b)[i]) a b
    · rw [dec_t hc]
      rw [if_pos hc] at key
      exact key
    · rw [dec_f hc]
      rw [if_neg hc] at key
      exact key
theorem ev_impl_TwoFind (n : Int) (E : List T) (a b : Int) (hE : E.length ≤ 1048576) : Ev (fun k => impl_TwoFind.f k n E a b) (twoFind n E a b) := by
  simp only [impl_TwoFind.f]
  refine Ev.bind (ev_twoKnots n E a b hE) ?_
  by_cases h : Two2 n E a b
  · refine Ev.pos (dec_t h) (Ev.bind (ev_all h.1 h.2.1) ?_)
    have := ev_TwoFind_l0 h.1 h.2.1 h.2.2.2 (allW n E a b).length 0 (by omega)
    rw [List.drop_zero] at this
    unfold twoFind
    rw [if_pos (show OK n E ∧ In n a ∧ In n b ∧ a ≠ b from h)]
    exact this
  · rw [twoFind_not h]
    exact Ev.neg (by rw [dec_f h]; simp) (Ev.now _)
end Go.Proofs.Ytiamiahkjdipkaa.Th
namespace Go.Proofs.Ytiamiahkjdipkaa.Th
open Go.RowKit Go.Proofs.YtiamiahkjdipkaaW.PrintWords Go.Proofs.YtiamiahkjdipkaaW.PrintLast Go.Proofs.YtiamiahkjdipkaaW.PrintMore Go.Proofs.Ytiamiahkjdipkaa.F
/-- Labels: none is greater than its knot, each leads there. -/
structure Lab (n : Int) (E : List T) (out : List Int) : Prop where
  len : out.length = n.toNat
  le : ∀ x, In n x → 0 ≤ rd out x ∧ rd out x ≤ x
  ok : ∀ x, In n x → Conn E (rd out x) x
/-- Labels with which all ties agree are those of the least. -/
theorem Lab.done {n : Int} {E : List T} {out : List Int} (s : Lab n E out) (he : ∀ t ∈ E, rd out t.f0 = rd out t.f1) : out = partsL n E := by
  refine ext_rd (by rw [s.len]; unfold partsL; rw [List.length_map, ks_length]) (fun x h0 hx => ?_)
  rw [s.len] at hx
  have hx' : In n x := ⟨h0, by omega⟩
  unfold partsL
  rw [rd_mapks n _ x h0 hx'.2]
  have hk : ∀ a b, Conn E a b → rd out a = rd out b := fun a b c => by
    have := c.keeps (P := fun y => rd out a = rd out y) (fun b c m k => k.trans ?_) rfl
    · exact this
    · have := he _ m
      unfold tie at this
      split at this <;> simp only at this
      · exact this
      · exact this.symm
  refine (rep_unique E h0 (s.le x hx').1 (s.ok x hx') (fun j hj hc => ?_)).symm
  by_cases hjn : j < n
  · have := (s.le j ⟨hj, hjn⟩).2
    rw [hk j x hc] at this
    exact this
  · have := (s.le x hx').2
    omega
theorem Lab.nonneg {n : Int} {E : List T} {out : List Int} (s : Lab n E out) : 0 ≤ out.sum := by
  refine sum_nonneg out (fun x hx => ?_)
  obtain ⟨i, hi, e⟩ := List.mem_iff_getElem.1 hx
  have := (s.le i ⟨by omega, by have := s.len; omega⟩).1
  rw [rd_getElem _ i hi, e] at this
  exact this
end Go.Proofs.Ytiamiahkjdipkaa.Th
namespace Go.Proofs.Ytiamiahkjdipkaa.Th
open Go.RowKit Go.Proofs.YtiamiahkjdipkaaW.PrintWords Go.Proofs.YtiamiahkjdipkaaW.PrintLast Go.Proofs.YtiamiahkjdipkaaW.PrintMore Go.Proofs.Ytiamiahkjdipkaa.F Classical
theorem TwoW.conn {E : List T} {a b : Int} (k : TwoW E a b) : Conn E a b := by
  obtain ⟨x, _, p, _⟩ := k
  exact p.conn
theorem TwoW.symm {E : List T} {a b : Int} (k : TwoW E a b) : TwoW E b a := by
  obtain ⟨x, y, p, q, h1, h2⟩ := k
  refine ⟨x.reverse, y.reverse, p.rev, q.rev, fun z hx hy => (h1 z (List.mem_reverse.1 hx) (List.mem_reverse.1 hy)).symm, by simpa using h2⟩
theorem TwoW.mono {E F : List T} (hs : ∀ t, t ∈ E → t ∈ F) {a b : Int} (k : TwoW E a b) : TwoW F a b := by
  obtain ⟨x, y, p, q, h⟩ := k
  exact ⟨x, y, p.mono hs, q.mono hs, h⟩
theorem Path.without {E : List T} {a b : Int} {w : List Int} (p : Path E a b w) {t : T} (ht : t ∉ es w) : Path (less E (· = t)) a b w :=
  ⟨p.nd, walk_es.2 (fun s hs => mem_less.2 ⟨walk_es.1 p.walk s hs, fun (e : s = t) => ht (e ▸ hs)⟩), p.hd, p.lst⟩
/-- No tie alone parts them. -/
theorem TwoW.less {n : Int} {E : List T} (h : OK n E) {a b : Int} (hab : a ≠ b) (k : TwoW E a b) (t : T) : Conn (Th.less E (· = t)) a b := by
  obtain ⟨x, y, p, q, h1, h2⟩ := k
  by_cases hx : t ∈ es x
  · by_cases hy : t ∈ es y
    · have e : t = tie a b := by
        obtain ⟨A, c, d, B, rfl, rfl⟩ := mem_es hx
        have hcd := (h.has (mem_of_es p hx : Has E c d)).2.2
        have kc := h1 c (by simp) (on_mem_es hy (on_tie.2 (Or.inl rfl)))
        have kd := h1 d (by simp) (on_mem_es hy (on_tie.2 (Or.inr rfl)))
        rcases kc with rfl | rfl <;> rcases kd with rfl | rfl
        · exact absurd rfl hcd
        · rfl
        · exact tie_comm _ _
        · exact absurd rfl hcd
      subst e
      by_cases l : x.length = 2
      · exact (path_off q hab (fun e => h2 ⟨l, (path_len2 q).2 e⟩)).conn
      · exact (path_off p hab (fun e => l ((path_len2 p).2 e))).conn
    · exact (q.without hy).conn
  · exact (p.without hx).conn
end Go.Proofs.Ytiamiahkjdipkaa.Th
namespace Go.Proofs.Ytiamiahkjdipkaa.Th
open Go.RowKit Go.Proofs.YtiamiahkjdipkaaW.PrintWords Go.Proofs.YtiamiahkjdipkaaW.PrintLast Go.Proofs.YtiamiahkjdipkaaW.PrintMore Go.Proofs.Ytiamiahkjdipkaa.F
def sm (n : Int) (f : Int → Int) : Int := ((ks n).map f).sum
theorem suml_add (f g : Int → Int) : ∀ l : List Int, (l.map (fun x => f x + g x)).sum = (l.map f).sum + (l.map g).sum
  | [] => rfl
  | a :: l => by simp only [List.map_cons, List.sum_cons, suml_add f g l]; omega
theorem suml_le {f g : Int → Int} : ∀ l : List Int, (∀ x ∈ l, f x ≤ g x) → (l.map f).sum ≤ (l.map g).sum
  | [], _ => Int.le_refl _
  | a :: l, h => by
    have := suml_le l (fun x hx => h x (List.mem_cons_of_mem _ hx))
    have := h a List.mem_cons_self
    simp only [List.map_cons, List.sum_cons]; omega
theorem suml_zero : ∀ l : List Int, (l.map (fun _ => (0 : Int))).sum = 0
  | [] => rfl
  | a :: l => by simp only [List.map_cons, List.sum_cons, suml_zero l]; rfl
theorem suml_point (p c : Int) : ∀ l : List Int, l.Nodup → (l.map (fun x => if x = p then c else 0)).sum = if p ∈ l then c else 0
  | [], _ => by simp
  | a :: l, h => by
    have h := List.nodup_cons.1 h
    simp only [List.map_cons, List.sum_cons, suml_point p c l h.2]
    by_cases e : a = p
    · subst e; rw [if_pos rfl, if_neg h.1, if_pos List.mem_cons_self]; omega
    · rw [if_neg e]
      by_cases k : p ∈ l
      · rw [if_pos k, if_pos (List.mem_cons_of_mem _ k)]; omega
      · rw [if_neg k, if_neg (fun m => (List.mem_cons.1 m).elim (fun m => e m.symm) k)]; omega
theorem sm_congr {n : Int} {f g : Int → Int} (h : ∀ x, In n x → f x = g x) : sm n f = sm n g := by
  unfold sm; rw [List.map_congr_left (fun x hx => h x (mem_ks.1 hx))]
theorem sm_add (n : Int) (f g : Int → Int) : sm n (fun x => f x + g x) = sm n f + sm n g := suml_add f g _
theorem sm_le {n : Int} {f g : Int → Int} (h : ∀ x, In n x → f x ≤ g x) : sm n f ≤ sm n g := suml_le _ (fun x hx => h x (mem_ks.1 hx))
theorem sm_zero (n : Int) : sm n (fun _ => 0) = 0 := suml_zero _
theorem sm_point {n p : Int} (h : In n p) (c : Int) : sm n (fun x => if x = p then c else 0) = c := by
  unfold sm
  rw [suml_point p c _ (ks_nodup n), if_pos (mem_ks.2 h)]
theorem suml_swap (F : Int → Int → Int) (m : List Int) : ∀ l : List Int, (l.map (fun u => (m.map (fun v => F u v)).sum)).sum = (m.map (fun v => (l.map (fun u => F u v)).sum)).sum
  | [] => by simp [suml_zero]
  | a :: l => by
    simp only [List.map_cons, List.sum_cons, suml_swap F m l]
    exact (suml_add (F a) (fun v => (l.map (fun u => F u v)).sum) m).symm
theorem sm_swap (n : Int) (F : Int → Int → Int) : sm n (fun u => sm n (fun v => F u v)) = sm n (fun v => sm n (fun u => F u v)) := suml_swap F _ _
/-- What leaves some knots. -/
def cs (n : Int) (R : Int → Int → Int) (S : Int → Bool) : Int := sm n (fun u => sm n (fun v => if S u = true ∧ S v = false then R u v else 0))
theorem cs_add (n : Int) (R Q : Int → Int → Int) (S : Int → Bool) : cs n (fun u v => R u v + Q u v) S = cs n R S + cs n Q S := by
  unfold cs
  rw [← sm_add]
  refine sm_congr (fun u _ => ?_)
  rw [← sm_add]
  refine sm_congr (fun v _ => ?_)
  by_cases h : S u = true ∧ S v = false
  · simp only [if_pos h]
  · simp only [if_neg h]; rfl
theorem cs_congr {n : Int} {R Q : Int → Int → Int} {S : Int → Bool} (h : ∀ u v, In n u → In n v → S u = true → S v = false → R u v = Q u v) : cs n R S = cs n Q S := by
  unfold cs
  refine sm_congr (fun u hu => sm_congr (fun v hv => ?_))
  by_cases k : S u = true ∧ S v = false
  · rw [if_pos k, if_pos k, h u v hu hv k.1 k.2]
  · rw [if_neg k, if_neg k]
theorem cs_le {n : Int} {R Q : Int → Int → Int} {S : Int → Bool} (h : ∀ u v, In n u → In n v → S u = true → S v = false → R u v ≤ Q u v) : cs n R S ≤ cs n Q S := by
  unfold cs
  refine sm_le (fun u hu => sm_le (fun v hv => ?_))
  by_cases k : S u = true ∧ S v = false
  · rw [if_pos k, if_pos k]; exact h u v hu hv k.1 k.2
  · rw [if_neg k, if_neg k]; exact Int.le_refl _
theorem cs_zero {n : Int} {R : Int → Int → Int} {S : Int → Bool} (h : ∀ u v, In n u → In n v → S u = true → S v = false → R u v = 0) : cs n R S = 0 := by
  rw [cs_congr (Q := fun _ _ => 0) h]
  unfold cs
  simp only [ite_self, sm_zero]
theorem cs_nonneg {n : Int} {R : Int → Int → Int} {S : Int → Bool} (h : ∀ u v, In n u → In n v → S u = true → S v = false → 0 ≤ R u v) : 0 ≤ cs n R S := by
  have := cs_le (R := fun _ _ => 0) h
  rwa [cs_zero (fun _ _ _ _ _ _ => rfl)] at this
theorem cs_point {n p q : Int} (hp : In n p) (hq : In n q) (c : Int) (S : Int → Bool) : cs n (fun u v => if u = p ∧ v = q then c else 0) S = if S p = true ∧ S q = false then c else 0 := by
  unfold cs
  rw [sm_congr (g := fun u => if u = p then (if S p = true ∧ S q = false then c else 0) else 0), sm_point hp]
  intro u _
  by_cases e : u = p
  · subst e
    rw [if_pos rfl, sm_congr (g := fun v => if v = q then (if S u = true ∧ S q = false then c else 0) else 0), sm_point hq]
    intro v _
    by_cases e : v = q
    · subst e; simp
    · simp [e]
  · rw [if_neg e, sm_congr (g := fun _ => 0), sm_zero]
    intro v _
    simp [e]
/-- A point of what leaves. -/
theorem cs_ge_point {n p q : Int} (hp : In n p) (hq : In n q) {R : Int → Int → Int} {S : Int → Bool} (h : ∀ u v, In n u → In n v → S u = true → S v = false → 0 ≤ R u v) (h1 : S p = true) (h2 : S q = false) : R p q ≤ cs n R S := by
  have := cs_le (n := n) (S := S) (R := fun u v => if u = p ∧ v = q then R p q else 0) (Q := R) (fun u v hu hv hs ht => by
    by_cases e : u = p ∧ v = q
    · rw [if_pos e, e.1, e.2]; exact Int.le_refl _
    · rw [if_neg e]; exact h u v hu hv hs ht)
  rw [cs_point hp hq, if_pos ⟨h1, h2⟩] at this
  exact this
def bi (x : Bool) : Int := if x then 1 else 0
/-- A step over room from one knot to the next. -/
theorem cs_push {n p q : Int} (hp : In n p) (hq : In n q) {R Q : Int → Int → Int} (h : ∀ u v, In n u → In n v → Q u v = R u v + (if u = p ∧ v = q then -1 else 0) + (if u = q ∧ v = p then 1 else 0)) (S : Int → Bool) : cs n Q S = cs n R S + bi (S q) - bi (S p) := by
  rw [cs_congr (fun u v hu hv _ _ => h u v hu hv), cs_add, cs_add, cs_point hp hq, cs_point hq hp]
  unfold bi
  cases S p <;> cases S q <;> simp <;> omega
/-- 1 if two knots are tied, and else 0. -/
def cap (E : List T) (u v : Int) : Int := if tie u v ∈ E then 1 else 0
theorem cap_comm (E : List T) (u v : Int) : cap E u v = cap E v u := by unfold cap; rw [tie_comm]
theorem cap_nonneg (E : List T) (u v : Int) : 0 ≤ cap E u v := by unfold cap; split <;> omega
theorem cap_le (E : List T) (u v : Int) : cap E u v ≤ 1 := by unfold cap; split <;> omega
def cross (n : Int) (E : List T) (S : Int → Bool) : Int := cs n (cap E) S
theorem cross_nonneg (n : Int) (E : List T) (S : Int → Bool) : 0 ≤ cross n E S := cs_nonneg (fun u v _ _ _ _ => cap_nonneg E u v)
theorem cross_not (n : Int) (E : List T) (S : Int → Bool) : cross n E (fun x => !S x) = cross n E S := by
  unfold cross cs
  rw [sm_swap]
  refine sm_congr (fun u _ => sm_congr (fun v _ => ?_))
  rw [cap_comm E v u]
  by_cases hu : S u = true <;> by_cases hv : S v = true <;> simp [hu, hv]
/-- The net without a tie. -/
theorem cross_less {n : Int} {E : List T} (h : OK n E) {t : T} (ht : t ∈ E) (S : Int → Bool) : cross n (less E (· = t)) S = cross n E S - (if S t.f0 = S t.f1 then 0 else 1) := by
  have hb := h.tie t ht
  have h0 : In n t.f0 := ⟨by omega, by omega⟩
  have h1 : In n t.f1 := ⟨by omega, by omega⟩
  unfold cross
  rw [cs_congr (Q := fun u v => cap E u v + ((if u = t.f0 ∧ v = t.f1 then -1 else 0) + (if u = t.f1 ∧ v = t.f0 then -1 else 0))), cs_add, cs_add, cs_point h0 h1, cs_point h1 h0]
  · cases S t.f0 <;> cases S t.f1 <;> simp <;> omega
  · intro u v _ _ _ _
    unfold cap
    by_cases e : tie u v = t
    · rw [if_neg (c := tie u v ∈ less E (· = t)) (fun m => (mem_less.1 m).2 e), if_pos (c := tie u v ∈ E) (by rw [e]; exact ht)]
      rcases (tie_eq_iff (by omega)).1 e with ⟨rfl, rfl⟩ | ⟨rfl, rfl⟩
      · rw [if_pos ⟨rfl, rfl⟩, if_neg (by omega)]; rfl
      · rw [if_neg (by omega), if_pos ⟨rfl, rfl⟩]; rfl
    · rw [if_neg (c := u = t.f0 ∧ v = t.f1) (fun k => e ((tie_eq_iff (by omega)).2 (Or.inl k))), if_neg (c := u = t.f1 ∧ v = t.f0) (fun k => e ((tie_eq_iff (by omega)).2 (Or.inr k)))]
      by_cases m : tie u v ∈ E
      · rw [if_pos (c := tie u v ∈ E) m, if_pos (c := tie u v ∈ less E (· = t)) (mem_less.2 ⟨m, e⟩)]; rfl
      · rw [if_neg (c := tie u v ∈ E) m, if_neg (c := tie u v ∈ less E (· = t)) (fun k => m (mem_less.1 k).1)]; rfl
structure IsFlow (n : Int) (E : List T) (a b c : Int) : Prop where
  some_ : ∃ S : Int → Bool, S a = true ∧ S b = false ∧ cross n E S = c
  least : ∀ S : Int → Bool, S a = true → S b = false → c ≤ cross n E S
theorem exists_least (P : Nat → Prop) : ∀ m : Nat, P m → ∃ k, P k ∧ ∀ j, P j → k ≤ j := by
  intro m
  induction m using Nat.strongRecOn with
  | ind m ih =>
    intro hm
    by_cases h : ∃ j, P j ∧ j < m
    · obtain ⟨j, hj, hl⟩ := h; exact ih j hl hj
    · exact ⟨m, hm, fun j hj => Nat.le_of_not_lt (fun hl => h ⟨j, hj, hl⟩)⟩
theorem exists_flow (n : Int) (E : List T) {a b : Int} (hab : a ≠ b) : ∃ c, IsFlow n E a b c := by
  obtain ⟨k, ⟨S, h1, h2, h3⟩, hl⟩ := exists_least (fun k => ∃ S : Int → Bool, S a = true ∧ S b = false ∧ cross n E S = (k : Int)) (cross n E (fun x => x == a)).toNat ⟨fun x => x == a, by simp, by simp; exact fun e => hab e.symm, by have := cross_nonneg n E (fun x => x == a); omega⟩
  refine ⟨k, ⟨S, h1, h2, h3⟩, fun S' h1' h2' => ?_⟩
  have := cross_nonneg n E S'
  have := hl (cross n E S').toNat ⟨S', h1', h2', by omega⟩
  omega
theorem IsFlow.unique {n : Int} {E : List T} {a b c d : Int} (h : IsFlow n E a b c) (k : IsFlow n E a b d) : c = d := by
  obtain ⟨S, h1, h2, h3⟩ := h.some_
  obtain ⟨S', h1', h2', h3'⟩ := k.some_
  have := h.least S' h1' h2'
  have := k.least S h1 h2
  omega
noncomputable def flow (n : Int) (E : List T) (a b : Int) : Int := Classical.epsilon (IsFlow n E a b)
theorem flow_is (n : Int) (E : List T) {a b : Int} (hab : a ≠ b) : IsFlow n E a b (flow n E a b) := Classical.epsilon_spec (exists_flow n E hab)
theorem IsFlow.flow {n : Int} {E : List T} {a b c : Int} (h : IsFlow n E a b c) : Th.flow n E a b = c := (Classical.epsilon_spec (p := IsFlow n E a b) ⟨c, h⟩ : IsFlow n E a b (Th.flow n E a b)).unique h
theorem IsFlow.symm {n : Int} {E : List T} {a b c : Int} (h : IsFlow n E a b c) : IsFlow n E b a c := by
  obtain ⟨S, h1, h2, h3⟩ := h.some_
  refine ⟨⟨fun x => !S x, by simp [h2], by simp [h1], by rw [cross_not]; exact h3⟩, fun S' h1' h2' => ?_⟩
  have := h.least (fun x => !S' x) (by simp [h2']) (by simp [h1'])
  rwa [cross_not] at this
theorem flow_comm (n : Int) (E : List T) {a b : Int} (hab : a ≠ b) : flow n E a b = flow n E b a := (flow_is n E (fun e => hab e.symm)).symm.flow
theorem flow_nonneg (n : Int) (E : List T) {a b : Int} (hab : a ≠ b) : 0 ≤ flow n E a b := by
  obtain ⟨S, _, _, h⟩ := (flow_is n E hab).some_
  rw [← h]; exact cross_nonneg n E S
/-- A bound. -/
theorem cross_le {n : Int} (h0 : 0 ≤ n) (h8 : n ≤ 8) (E : List T) (S : Int → Bool) : cross n E S ≤ 64 := by
  have hs : ∀ c : Int, 0 ≤ c → ∀ l : List Int, l.length ≤ 8 → (l.map (fun _ => c)).sum ≤ 8 * c := by
    intro c hc l hl
    have : ∀ l : List Int, (l.map (fun _ => c)).sum = (l.length : Int) * c := by
      intro l
      induction l with
      | nil => simp
      | cons a l ih => simp only [List.map_cons, List.sum_cons, ih, List.length_cons]; rw [Int.natCast_add, Int.add_mul]; omega
    rw [this]
    exact Int.mul_le_mul_of_nonneg_right (by omega) hc
  have hk : (ks n).length ≤ 8 := by rw [ks_length]; omega
  unfold cross cs
  refine Int.le_trans (sm_le (g := fun _ => 8) (fun u _ => ?_)) (hs 8 (by omega) _ hk)
  refine Int.le_trans (sm_le (g := fun _ => 1) (fun v _ => ?_)) (hs 1 (by omega) _ hk)
  split
  · exact cap_le E u v
  · omega
/-- One tie less. -/
theorem flow_less {n : Int} {E : List T} (h : OK n E) {t : T} (ht : t ∈ E) {a b : Int} (hab : a ≠ b) : flow n E a b - 1 ≤ flow n (less E (· = t)) a b ∧ flow n (less E (· = t)) a b ≤ flow n E a b := by
  obtain ⟨S, h1, h2, h3⟩ := (flow_is n E hab).some_
  obtain ⟨S', h1', h2', h3'⟩ := (flow_is n (less E (· = t)) hab).some_
  have e := cross_less h ht S
  have e' := cross_less h ht S'
  have l := (flow_is n E hab).least S' h1' h2'
  have l' := (flow_is n (less E (· = t)) hab).least S h1 h2
  constructor
  · split at e' <;> omega
  · split at e <;> omega
/-- None: they are parted. -/
theorem flow_zero {n : Int} {E : List T} (h : OK n E) {a b : Int} (_ha : In n a) (hab : a ≠ b) : flow n E a b = 0 ↔ ¬ Conn E a b := by
  constructor
  · intro e hc
    obtain ⟨S, h1, h2, h3⟩ := (flow_is n E hab).some_
    rw [e] at h3
    have : S b = true := hc.keeps (P := fun x => S x = true) (fun u v m hu => by
      cases hv : S v with
      | true => rfl
      | false =>
        have hi := h.has m
        have := cs_ge_point (n := n) (R := cap E) (S := S) hi.1 hi.2.1 (fun u v _ _ _ _ => cap_nonneg E u v) hu hv
        unfold cross at h3
        rw [h3] at this
        unfold cap at this
        rw [if_pos (show tie u v ∈ E from m)] at this
        omega) h1
    rw [this] at h2
    exact absurd h2 (by simp)
  · intro hc
    refine IsFlow.flow ⟨⟨fun x => dec (Conn E a x), dec_t (.refl a), dec_f hc, ?_⟩, fun S _ _ => cross_nonneg n E S⟩
    refine cs_zero (fun u v _ _ hu hv => ?_)
    unfold cap
    refine if_neg (fun m => ?_)
    have : Conn E a v := .step (dec_iff.1 hu) m
    simp only [dec_t this] at hv
    exact absurd hv (by simp)
theorem less_cons (E : List T) (x : T) (X : List T) : less E (· ∈ x :: X) = less (less E (· = x)) (· ∈ X) := by
  rw [less_less]
  exact less_congr (fun t _ => by rw [List.mem_cons])
theorem cross_lessL {n : Int} (S : Int → Bool) : ∀ (X : List T) {E : List T}, OK n E → cross n E S ≤ cross n (less E (· ∈ X)) S + X.length
  | [], E, _ => by rw [less_none (by simp)]; simp
  | x :: X, E, h => by
    rw [less_cons]
    have ih := cross_lessL S X (h.less (· = x))
    have : cross n E S ≤ cross n (less E (· = x)) S + 1 := by
      by_cases hx : x ∈ E
      · rw [cross_less h hx S]; split <;> omega
      · rw [less_none (fun t ht (e : t = x) => hx (e ▸ ht))]; omega
    simp only [List.length_cons]; omega
theorem flow_lessL {n : Int} {E : List T} (h : OK n E) (X : List T) {a b : Int} (hab : a ≠ b) : flow n E a b ≤ flow n (less E (· ∈ X)) a b + X.length := by
  obtain ⟨S, h1, h2, h3⟩ := (flow_is n (less E (· ∈ X)) hab).some_
  have := cross_lessL S X h
  have := (flow_is n E hab).least S h1 h2
  omega
theorem flow_parts {n : Int} {E : List T} (h : OK n E) (X : List T) {a b : Int} (ha : In n a) (hab : a ≠ b) (hp : ¬ Conn (less E (· ∈ X)) a b) : flow n E a b ≤ X.length := by
  have := flow_lessL h X hab
  rw [(flow_zero (h.less _) ha hab).2 hp] at this
  omega
/-- What is taken of the ties ahead. -/
noncomputable def greedy (n a b : Int) : List T → List T → Int → List T
  | [], _, _ => []
  | t :: l, rest, need => @ite _ (0 < need ∧ flow n (less rest (· = t)) a b < need) (Classical.propDecidable _) (t :: greedy n a b l (less rest (· = t)) (need - 1)) (greedy n a b l rest need)
theorem greedy_pos {n a b : Int} {t : T} {l rest : List T} {need : Int} (h : 0 < need ∧ flow n (less rest (· = t)) a b < need) : greedy n a b (t :: l) rest need = t :: greedy n a b l (less rest (· = t)) (need - 1) := by
  rw [greedy, if_pos h]
theorem greedy_neg {n a b : Int} {t : T} {l rest : List T} {need : Int} (h : ¬ (0 < need ∧ flow n (less rest (· = t)) a b < need)) : greedy n a b (t :: l) rest need = greedy n a b l rest need := by
  rw [greedy, if_neg h]
theorem greedy_sub {n a b : Int} : ∀ (l rest : List T) (need : Int), (greedy n a b l rest need).Sublist l
  | [], _, _ => by rw [greedy]; exact List.Sublist.refl _
  | t :: l, rest, need => by
    by_cases h : 0 < need ∧ flow n (less rest (· = t)) a b < need
    · rw [greedy_pos h]; exact (greedy_sub l _ _).cons_cons t
    · rw [greedy_neg h]; exact (greedy_sub l _ _).cons t
theorem mem_less_ne {l rest : List T} {t : T} (hl : ∀ x ∈ t :: l, x ∈ rest) (hn : (t :: l).Nodup) : ∀ x ∈ l, x ∈ less rest (· = t) := fun x hx =>
  mem_less.2 ⟨hl x (List.mem_cons_of_mem _ hx), fun (e : x = t) => (List.nodup_cons.1 hn).1 (e ▸ hx)⟩
/-- What is taken makes that much less. -/
theorem greedy_flow {n a b : Int} (hab : a ≠ b) : ∀ (l rest : List T), OK n rest → l.Nodup → (∀ x ∈ l, x ∈ rest) → flow n (less rest (· ∈ greedy n a b l rest (flow n rest a b))) a b = flow n rest a b - (greedy n a b l rest (flow n rest a b)).length
  | [], rest, _, _, _ => by rw [greedy, less_none (by simp)]; simp
  | t :: l, rest, h, hn, hl => by
    by_cases k : 0 < flow n rest a b ∧ flow n (less rest (· = t)) a b < flow n rest a b
    · rw [greedy_pos k, less_cons]
      have hf := flow_less h (hl t List.mem_cons_self) hab
      have e : flow n rest a b - 1 = flow n (less rest (· = t)) a b := by omega
      rw [e, greedy_flow hab l _ (h.less _) (List.nodup_cons.1 hn).2 (mem_less_ne hl hn)]
      simp only [List.length_cons]; omega
    · rw [greedy_neg k]
      exact greedy_flow hab l rest h (List.nodup_cons.1 hn).2 (fun x hx => hl x (List.mem_cons_of_mem _ hx))
/-- No tie that was left leaves a least cut of what is left. -/
theorem greedy_left {n a b : Int} (hab : a ≠ b) {S : Int → Bool} (h1 : S a = true) (h2 : S b = false) : ∀ (l rest : List T), OK n rest → l.Nodup → (∀ x ∈ l, x ∈ rest) → 0 < flow n (less rest (· ∈ greedy n a b l rest (flow n rest a b))) a b →
    cross n (less rest (· ∈ greedy n a b l rest (flow n rest a b))) S = flow n (less rest (· ∈ greedy n a b l rest (flow n rest a b))) a b → ∀ t ∈ l, t ∉ greedy n a b l rest (flow n rest a b) → S t.f0 = S t.f1
  | [], rest, _, _, _, _, _, t, ht, _ => by simp at ht
  | s :: l, rest, h, hn, hl, hpos, hS, t, ht, hx => by
    by_cases k : 0 < flow n rest a b ∧ flow n (less rest (· = s)) a b < flow n rest a b
    · rw [greedy_pos k] at hx hpos hS
      rw [less_cons] at hpos hS
      have hf := flow_less h (hl s List.mem_cons_self) hab
      have e : flow n rest a b - 1 = flow n (less rest (· = s)) a b := by omega
      rw [e] at hx hpos hS
      rcases List.mem_cons.1 ht with rfl | ht
      · exact absurd List.mem_cons_self hx
      · exact greedy_left hab h1 h2 l _ (h.less _) (List.nodup_cons.1 hn).2 (mem_less_ne hl hn) hpos hS t ht (fun m => hx (List.mem_cons_of_mem _ m))
    · have hl' : ∀ x ∈ l, x ∈ rest := fun x hx => hl x (List.mem_cons_of_mem _ hx)
      have hn' := (List.nodup_cons.1 hn).2
      rw [greedy_neg k] at hx hpos hS
      rcases List.mem_cons.1 ht with rfl | ht
      · have g := greedy_flow hab l rest h hn' hl'
        have c := cross_lessL S (greedy n a b l rest (flow n rest a b)) h
        have d := cross_less h (hl t List.mem_cons_self) S
        have m := (flow_is n (less rest (· = t)) hab).least S h1 h2
        by_cases e : S t.f0 = S t.f1
        · exact e
        · rw [if_neg e] at d
          exact absurd ⟨by omega, by omega⟩ k
      · exact greedy_left hab h1 h2 l rest h hn' hl' hpos hS t ht hx
/-- The fewest ties that part two knots, as told. -/
noncomputable def flowCut (n : Int) (E : List T) (a b : Int) : List T := greedy n a b E E (flow n E a b)
theorem flowCut_sub (n : Int) (E : List T) (a b : Int) : (flowCut n E a b).Sublist E := greedy_sub _ _ _
theorem flowCut_zero {n : Int} {E : List T} (h : OK n E) {a b : Int} (hab : a ≠ b) : flow n (less E (· ∈ flowCut n E a b)) a b = 0 := by
  have h0 := flow_nonneg n (less E (· ∈ flowCut n E a b)) hab
  by_cases hp : 0 < flow n (less E (· ∈ flowCut n E a b)) a b
  · obtain ⟨S, h1, h2, h3⟩ := (flow_is n (less E (· ∈ flowCut n E a b)) hab).some_
    have key := greedy_left hab h1 h2 E E h h.nodup (fun _ m => m) hp h3
    have : cross n (less E (· ∈ flowCut n E a b)) S = 0 := cs_zero (fun u v _ _ hu hv => by
      unfold cap
      refine if_neg (fun m => ?_)
      have m' := mem_less.1 m
      have e := key _ m'.1 m'.2
      unfold tie at e
      split at e <;> simp only at e <;> rw [hu, hv] at e <;> exact absurd e (by simp))
    omega
  · omega
theorem flowCut_length {n : Int} {E : List T} (h : OK n E) {a b : Int} (hab : a ≠ b) : ((flowCut n E a b).length : Int) = flow n E a b := by
  have := greedy_flow hab E E h h.nodup (fun _ m => m)
  have := flowCut_zero h hab
  unfold flowCut at *
  omega
theorem flowCut_parts {n : Int} {E : List T} (h : OK n E) {a b : Int} (ha : In n a) (hab : a ≠ b) : ¬ Conn (less E (· ∈ flowCut n E a b)) a b := (flow_zero (h.less _) ha hab).1 (flowCut_zero h hab)
/-- Without one of them one way less is left. -/
theorem flowCut_less {n : Int} {E : List T} (h : OK n E) {a b : Int} (ha : In n a) (hab : a ≠ b) {t : T} (ht : t ∈ flowCut n E a b) : flow n (less E (· = t)) a b = flow n E a b - 1 := by
  have hf := flow_less h ((flowCut_sub n E a b).subset ht) hab
  have hl := flowCut_length h hab
  obtain ⟨p, q, e⟩ := List.append_of_mem ht
  have hp : ¬ Conn (less (less E (· = t)) (· ∈ p ++ q)) a b := by
    rw [less_less, less_congr (q := (· ∈ flowCut n E a b))]
    · exact flowCut_parts h ha hab
    · intro x _
      rw [e]; simp only [List.mem_append, List.mem_cons]
      constructor
      · rintro (h | h | h)
        · exact Or.inr (Or.inl h)
        · exact Or.inl h
        · exact Or.inr (Or.inr h)
      · rintro (h | h | h)
        · exact Or.inr (Or.inl h)
        · exact Or.inl h
        · exact Or.inr (Or.inr h)
  have := flow_parts (h.less (· = t)) (p ++ q) ha hab hp
  rw [e] at hl
  simp only [List.length_append, List.length_cons] at *
  omega
/-- Of a proposition 1 or 0. -/
noncomputable def one (p : Prop) : Int := @ite _ p (Classical.propDecidable p) 1 0
/-- Two classes made one. -/
def Join (R : Int → Int → Prop) (a b x y : Int) : Prop := R x y ∨ (R x a ∧ R b y) ∨ (R x b ∧ R a y)
/-- What a tie joins. -/
theorem Conn.add {E F : List T} {t : T} (ht : t.f0 < t.f1) (h : ∀ s, s ∈ F ↔ s = t ∨ s ∈ E) {x y : Int} : Conn F x y ↔ Join (Conn E) t.f0 t.f1 x y := by
  constructor
  · intro k
    induction k with
    | refl => exact Or.inl (.refl _)
    | step _ m ih =>
      rcases (h _).1 m with e | m
      · rcases (tie_eq_iff ht).1 e with ⟨rfl, rfl⟩ | ⟨rfl, rfl⟩
        · rcases ih with k | ⟨k, k'⟩ | ⟨k, k'⟩
          · exact Or.inr (Or.inl ⟨k, .refl _⟩)
          · exact Or.inr (Or.inl ⟨k, .refl _⟩)
          · exact Or.inl k
        · rcases ih with k | ⟨k, k'⟩ | ⟨k, k'⟩
          · exact Or.inr (Or.inr ⟨k, .refl _⟩)
          · exact Or.inl k
          · exact Or.inr (Or.inr ⟨k, .refl _⟩)
      · rcases ih with k | ⟨k, k'⟩ | ⟨k, k'⟩
        · exact Or.inl (.step k m)
        · exact Or.inr (Or.inl ⟨k, .step k' m⟩)
        · exact Or.inr (Or.inr ⟨k, .step k' m⟩)
  · have mono : ∀ {a b}, Conn E a b → Conn F a b := fun k => k.mono (fun s hs => (h s).2 (Or.inr hs))
    have one' : Conn F t.f0 t.f1 := .one (by unfold Has; rw [tie_of_mem ht]; exact (h t).2 (Or.inl rfl))
    rintro (k | ⟨k, k'⟩ | ⟨k, k'⟩)
    · exact mono k
    · exact (mono k).trans (one'.trans (mono k'))
    · exact (mono k).trans (one'.symm.trans (mono k'))
theorem two_iff {n : Int} {E : List T} (h : OK n E) {a b : Int} (ha : In n a) (hab : a ≠ b) : 2 ≤ flow n E a b ↔ Conn E a b ∧ ∀ t ∈ E, Conn (less E (· = t)) a b := by
  constructor
  · intro k
    refine ⟨Classical.not_not.1 (fun c => by have := (flow_zero h ha hab).2 c; omega), fun t ht => Classical.not_not.1 (fun c => ?_)⟩
    have := (flow_zero (h.less _) ha hab).2 c
    have := flow_less h ht hab
    omega
  · rintro ⟨k, k'⟩
    have h0 := flow_nonneg n E hab
    have h1 : flow n E a b ≠ 0 := fun e => (flow_zero h ha hab).1 e k
    have h2 : flow n E a b ≠ 1 := fun e => by
      have hl := flowCut_length h hab
      obtain ⟨t, ht⟩ := List.exists_mem_of_length_pos (l := flowCut n E a b) (by omega)
      have := flowCut_less h ha hab ht
      exact (flow_zero (h.less (· = t)) ha hab).1 (by omega) (k' t ((flowCut_sub n E a b).subset ht))
    omega
/-- So many ways lead from a to b; another one is there from v to b. -/
structure Room (n : Int) (E : List T) (a b v many : Int) (R : Int → Int → Int) : Prop where
  nonneg : ∀ x y, In n x → In n y → 0 ≤ R x y
  pair : ∀ x y, In n x → In n y → R x y + R y x = 2 * cap E x y
  cut : ∀ S : Int → Bool, S a = true → S b = false → cs n R S = cross n E S - many - bi (S v)
theorem Room.start (n : Int) (E : List T) (a b : Int) : Room n E a b b 0 (cap E) :=
  ⟨fun x y _ _ => cap_nonneg E x y, fun x y _ _ => by rw [cap_comm E y x]; omega, fun S _ h => by rw [h]; simp [cross, bi]⟩
theorem Room.congr {n : Int} {E : List T} {a b v many : Int} {R Q : Int → Int → Int} (h : Room n E a b v many R) (k : ∀ x y, In n x → In n y → Q x y = R x y) : Room n E a b v many Q :=
  ⟨fun x y hx hy => by rw [k x y hx hy]; exact h.nonneg x y hx hy, fun x y hx hy => by rw [k x y hx hy, k y x hy hx]; exact h.pair x y hx hy, fun S h1 h2 => by rw [cs_congr (Q := R) (fun u v hu hv _ _ => k u v hu hv)]; exact h.cut S h1 h2⟩
theorem Room.le {n : Int} {E : List T} {a b v many : Int} {R : Int → Int → Int} (h : Room n E a b v many R) {x y : Int} (hx : In n x) (hy : In n y) : 0 ≤ R x y ∧ R x y ≤ 2 := by
  have := h.nonneg x y hx hy
  have := h.nonneg y x hy hx
  have := h.pair x y hx hy
  have := cap_le E x y
  omega
theorem Room.step {n : Int} {E : List T} {a b v many : Int} {R Q : Int → Int → Int} (h : Room n E a b v many R) {p : Int} (hp : In n p) (hv : In n v) (hpv : p ≠ v) (h1 : 1 ≤ R p v)
    (k : ∀ x y, In n x → In n y → Q x y = R x y + (if x = p ∧ y = v then -1 else 0) + (if x = v ∧ y = p then 1 else 0)) : Room n E a b p many Q := by
  refine ⟨fun x y hx hy => ?_, fun x y hx hy => ?_, fun S hS hS' => ?_⟩
  · have := h.nonneg x y hx hy
    rw [k x y hx hy]
    by_cases e : x = p ∧ y = v
    · obtain ⟨rfl, rfl⟩ := e
      rw [if_pos ⟨rfl, rfl⟩]
      split <;> omega
    · rw [if_neg e]
      split <;> omega
  · have := h.pair x y hx hy
    rw [k x y hx hy, k y x hy hx]
    by_cases e : x = p ∧ y = v
    · obtain ⟨rfl, rfl⟩ := e
      rw [if_pos ⟨rfl, rfl⟩, if_neg (fun e => hpv e.1), if_neg (fun e => hpv e.2), if_pos ⟨rfl, rfl⟩]; omega
    · by_cases e' : x = v ∧ y = p
      · obtain ⟨rfl, rfl⟩ := e'
        rw [if_neg e, if_pos ⟨rfl, rfl⟩, if_pos ⟨rfl, rfl⟩, if_neg (fun e => hpv e.1)]; omega
      · rw [if_neg e, if_neg e', if_neg (c := y = p ∧ x = v) (fun z => e' ⟨z.2, z.1⟩), if_neg (c := y = v ∧ x = p) (fun z => e ⟨z.2, z.1⟩)]; omega
  · rw [cs_push hp hv k S, h.cut S hS hS']; omega
theorem Room.turn {n : Int} {E : List T} {a b many : Int} {R : Int → Int → Int} (h : Room n E a b a many R) : Room n E a b b (many + 1) R :=
  ⟨h.nonneg, h.pair, fun S h1 h2 => by rw [h.cut S h1 h2, h1, h2]; unfold bi; simp; omega⟩
theorem Room.done {n : Int} {E : List T} {a b many : Int} {R : Int → Int → Int} (h : Room n E a b b many R) {S : Int → Bool} (ha : S a = true) (hb : S b = false) (hc : ∀ x y, In n x → In n y → S x = true → S y = false → R x y ≤ 0) : IsFlow n E a b many := by
  constructor
  · refine ⟨S, ha, hb, ?_⟩
    have := h.cut S ha hb
    rw [cs_zero (fun x y hx hy h1 h2 => by have := hc x y hx hy h1 h2; have := h.nonneg x y hx hy; omega), hb] at this
    simp [bi] at this; omega
  · intro S' h1 h2
    have := h.cut S' h1 h2
    have := cs_nonneg (n := n) (R := R) (S := S') (fun x y hx hy _ _ => h.nonneg x y hx hy)
    simp [bi, h2] at *; omega
theorem Room.many_le {n : Int} {E : List T} {a b many : Int} {R : Int → Int → Int} (h : Room n E a b b many R) (h0 : 0 ≤ n) (h8 : n ≤ 8) (hab : a ≠ b) : many ≤ 64 := by
  have h1 : (fun x => x == a) b = false := by simp; exact fun e => hab e.symm
  have := h.cut (fun x => x == a) (by simp) h1
  have := cs_nonneg (n := n) (R := R) (S := fun x => x == a) (fun x y hx hy _ _ => h.nonneg x y hx hy)
  have := cross_le h0 h8 E (fun x => x == a)
  simp only [h1, bi] at *
  simp at *
  omega
/-- The way back to a: the knots from v on, without a. -/
def Back (n a : Int) (fr : Int → Int) (R : Int → Int → Int) : Int → List Int → Prop
  | v, [] => v = a
  | v, w :: p => w = v ∧ v ≠ a ∧ In n v ∧ In n (fr v) ∧ fr v ≠ v ∧ v ∉ p ∧ 1 ≤ R (fr v) v ∧ Back n a fr R (fr v) p
theorem Back.congr {n a : Int} {fr fr' : Int → Int} {R R' : Int → Int → Int} : ∀ {p : List Int} {v : Int}, Back n a fr R v p → (∀ x ∈ p, fr' x = fr x ∧ R (fr x) x ≤ R' (fr x) x) → Back n a fr' R' v p
  | [], _, h, _ => h
  | w :: p, v, ⟨h1, h2, h3, h4, h5, h6, h7, h8⟩, k => by
    subst h1
    obtain ⟨k1, k2⟩ := k w List.mem_cons_self
    refine ⟨rfl, h2, h3, by rw [k1]; exact h4, by rw [k1]; exact h5, h6, by rw [k1]; omega, ?_⟩
    rw [k1]
    exact h8.congr (fun x hx => k x (List.mem_cons_of_mem _ hx))
/-- Room from knot to knot, out of the table. -/
def rm (room : List Int) (x y : Int) : Int := room.getD (at2 x y) 0
theorem at2_lt {n x y : Int} (h8 : n ≤ 8) (hx : In n x) (hy : In n y) : at2 x y < 64 := by unfold at2; unfold In at hx hy; omega
theorem at2_inj {n x y u v : Int} (h8 : n ≤ 8) (hx : In n x) (hy : In n y) (hu : In n u) (hv : In n v) : at2 x y = at2 u v ↔ x = u ∧ y = v := by unfold at2; unfold In at hx hy hu hv; omega
theorem rm_set {n x y u v : Int} (h8 : n ≤ 8) (hx : In n x) (hy : In n y) (hu : In n u) (hv : In n v) {room : List Int} (hl : room.length = 64) (c : Int) : rm (room.set (at2 u v) c) x y = if x = u ∧ y = v then c else rm room x y := by
  unfold rm
  simp only [List.getD_eq_getElem?_getD]
  by_cases e : x = u ∧ y = v
  · obtain ⟨rfl, rfl⟩ := e
    rw [if_pos ⟨rfl, rfl⟩, List.getElem?_set_self (by rw [hl]; exact at2_lt h8 hx hy)]; rfl
  · rw [if_neg e, List.getElem?_set_ne (fun k => e ((at2_inj h8 hx hy hu hv).1 k.symm))]
theorem ev_flow_l0 {n : Int} {E : List T} {a b r : Int} (h : OK n E) (hk : ∀ room : List Int, room.length = 64 → (∀ x y, In n x → In n y → rm room x y = cap E x y) → Ev (fun k => impl_Net_flow.l1 k n a b room 0) r) : ∀ (d i : Nat) (room : List Int), i + d = E.length → room.length = 64 → (∀ x y, In n x → In n y → rm room x y = cap (E.take i) x y) →
    Ev (fun k => impl_Net_flow.l0 k E E.length i n a b room) r
  | 0, i, room, hd, hl, hr => by
    refine Ev.succ ?_
    simp only [impl_Net_flow.l0]
    refine Ev.neg (by omega) (hk room hl ?_)
    rwa [List.take_of_length_le (by omega)] at hr
  | d + 1, i, room, hd, hl, hr => by
    have hi : i < E.length := by omega
    have h8 := h.n8
    have hlE := h.length
    have ht := h.tie E[i] (List.getElem_mem hi)
    have h0 : In n E[i].f0 := ⟨by omega, by omega⟩
    have h1 : In n E[i].f1 := ⟨by omega, by omega⟩
    refine Ev.succ ?_
    simp only [impl_Net_flow.l0, rd_T_nat E i hi]
    refine Ev.pos (by omega) (Ev.pos (by omega) (Ev.pos (by omega) (Ev.pos (by omega) (Ev.pos (by omega) (Ev.pos (by omega) (Ev.pos (by omega) ?_))))))
    rw [w64 (by omega)]
    refine ev_flow_l0 h hk d (i + 1) _ (by omega) (by rw [List.length_set, List.length_set]; exact hl) (fun x y hx hy => ?_)
    rw [rm_set h8 hx hy h1 h0 (by rw [List.length_set]; exact hl), rm_set h8 hx hy h0 h1 hl, hr x y hx hy]
    have key : tie x y ∈ E.take (i + 1) ↔ tie x y ∈ E.take i ∨ tie x y = E[i] := by
      rw [← List.take_append_getElem hi, List.mem_append, List.mem_singleton]
    have ke := tie_eq_iff (a := x) (b := y) (t := E[i]) (by omega)
    unfold cap
    by_cases e1 : x = E[i].f1 ∧ y = E[i].f0
    · rw [if_pos e1, if_pos (key.2 (Or.inr (ke.2 (Or.inr e1))))]
    · rw [if_neg e1]
      by_cases e2 : x = E[i].f0 ∧ y = E[i].f1
      · rw [if_pos e2, if_pos (key.2 (Or.inr (ke.2 (Or.inl e2))))]
      · rw [if_neg e2]
        by_cases m : tie x y ∈ E.take i
        · rw [if_pos m, if_pos (key.2 (Or.inl m))]
        · rw [if_neg m, if_neg (fun k => (key.1 k).elim m (fun k => (ke.1 k).elim e2 e1))]
theorem ev_flow_l2 {n : Int} {a b many r : Int} {room : List Int} (ha : 0 ≤ a) (ha8 : a < 8) (hk : ∀ fr : List Int, fr.length = 8 → (∀ x : Int, 0 ≤ x → x < 8 → rd fr x = if x = a then a else -1) → Ev (fun k => impl_Net_flow.l3 k n a b room many fr [a] 0) r) : ∀ (d j : Nat) (fr : List Int), j + d = 8 → fr.length = 8 → (∀ x : Int, 0 ≤ x → x < j → rd fr x = -1) →
    Ev (fun k => impl_Net_flow.l2 k n a b room many fr j) r
  | 0, j, fr, hd, hl, hr => by
    refine Ev.succ ?_
    simp only [impl_Net_flow.l2]
    refine Ev.neg (by omega) (Ev.pos ha (Ev.pos ha8 (hk _ (by rw [List.length_set]; exact hl) (fun x h0 h1 => ?_))))
    rw [rd_set fr a x a ha (by omega) h0]
    by_cases e : x = a
    · rw [if_pos e, if_pos e]
    · rw [if_neg e, if_neg e]; exact hr x h0 (by omega)
  | d + 1, j, fr, hd, hl, hr => by
    refine Ev.succ ?_
    simp only [impl_Net_flow.l2]
    refine Ev.pos (by omega) (Ev.pos (by omega) ?_)
    rw [w64 (by omega)]
    refine ev_flow_l2 ha ha8 hk d (j + 1) _ (by omega) (by rw [List.length_set]; exact hl) (fun x h0 h1 => ?_)
    rw [rd_set fr j x (-1) (by omega) (by omega) h0]
    by_cases e : x = j
    · rw [if_pos e]
    · rw [if_neg e]; exact hr x h0 (by omega)
/-- What is come to, in a row; from where each was come to. -/
structure Bfs (n a : Int) (R : Int → Int → Int) (fr : Int → Int) (q : List Int) : Prop where
  mem : ∀ x, In n x → (0 ≤ fr x ↔ x ∈ q)
  inn : ∀ x ∈ q, In n x
  nodup : q.Nodup
  start : a ∈ q
  back : ∀ x ∈ q, ∃ p : List Int, (∀ y ∈ p, y ∈ q) ∧ Back n a fr R x p
theorem Bfs.length {n a : Int} {R : Int → Int → Int} {fr : Int → Int} {q : List Int} (h : Bfs n a R fr q) (h0 : 0 ≤ n) : (q.length : Int) ≤ n := by
  have : q.length ≤ (ks n).length := by
    have hs : ∀ x ∈ q, x ∈ ks n := fun x hx => mem_ks.2 (h.inn x hx)
    exact List.Nodup.length_le_of_subset h.nodup hs
  rw [ks_length] at this
  omega
/-- One more. -/
theorem Bfs.more {n a : Int} {R : Int → Int → Int} {fr fr' : Int → Int} {q : List Int} (h : Bfs n a R fr q) {u v : Int} (hu : u ∈ q) (hv : In n v) (hn : ¬ 0 ≤ fr v) (hR : 1 ≤ R u v) (hf : ∀ x, In n x → fr' x = if x = v then u else fr x) : Bfs n a R fr' (q ++ [v]) := by
  have hvq : v ∉ q := fun m => hn ((h.mem v hv).2 m)
  have huv : u ≠ v := fun e => hvq (e ▸ hu)
  have hui := h.inn u hu
  have hfq : ∀ x ∈ q, fr' x = fr x := fun x hx => by rw [hf x (h.inn x hx), if_neg (fun (e : x = v) => hvq (e ▸ hx))]
  refine ⟨fun x hx => ?_, fun x hx => ?_, ?_, List.mem_append_left _ h.start, fun x hx => ?_⟩
  · rw [hf x hx, List.mem_append, List.mem_singleton]
    by_cases e : x = v
    · rw [if_pos e]; exact ⟨fun _ => Or.inr e, fun _ => hui.1⟩
    · rw [if_neg e, h.mem x hx]; exact ⟨Or.inl, fun k => k.resolve_right e⟩
  · rcases List.mem_append.1 hx with m | m
    · exact h.inn x m
    · rw [List.mem_singleton.1 m]; exact hv
  · rw [List.nodup_append]
    refine ⟨h.nodup, by simp, fun x hx y hy => ?_⟩
    rw [List.mem_singleton.1 hy]
    exact fun (e : x = v) => hvq (e ▸ hx)
  · rcases List.mem_append.1 hx with m | m
    · obtain ⟨p, hp, hb⟩ := h.back x m
      exact ⟨p, fun y hy => List.mem_append_left _ (hp y hy), hb.congr (fun y hy => ⟨hfq y (hp y hy), Int.le_refl _⟩)⟩
    · rw [List.mem_singleton.1 m]
      obtain ⟨p, hp, hb⟩ := h.back u hu
      have e : fr' v = u := by rw [hf v hv, if_pos rfl]
      refine ⟨v :: p, fun y hy => ?_, rfl, fun (e : v = a) => hvq (e ▸ h.start), hv, by rw [e]; exact hui, by rw [e]; exact huv, fun m => hvq (hp v m), by rw [e]; exact hR, ?_⟩
      · rcases List.mem_cons.1 hy with rfl | hy
        · exact List.mem_append_right _ (by simp)
        · exact List.mem_append_left _ (hp y hy)
      · rw [e]; exact hb.congr (fun y hy => ⟨hfq y (hp y hy), Int.le_refl _⟩)
/-- What the row's first k knots lead to is come to. -/
def Done (n : Int) (R : Int → Int → Int) (q : List Int) (k : Int) : Prop := ∀ i, 0 ≤ i → i < k → i < q.length → ∀ x, In n x → 0 < R (rd q i) x → x ∈ q
theorem rd_append_lt (q l : List Int) {i : Int} (h0 : 0 ≤ i) (h : i < q.length) : rd (q ++ l) i = rd q i := by
  unfold rd
  simp only [List.getD_eq_getElem?_getD]
  rw [List.getElem?_append_left (by omega)]
theorem ev_flow_l4 {n : Int} (h0 : 0 ≤ n) (h8 : n ≤ 8) {a b many r : Int} {room : List Int} (x : Int) (hx0 : 0 ≤ x)
    (hk : ∀ (fr q : List Int), fr.length = 8 → Bfs n a (rm room) (rd fr) q → x < q.length → Done n (rm room) q (x + 1) → Ev (fun k => impl_Net_flow.l3 k n a b room many fr q (x + 1)) r) :
    ∀ (d : Nat) (v : Int) (fr q : List Int), 0 ≤ v → v + d = n → fr.length = 8 → Bfs n a (rm room) (rd fr) q → x < q.length → Done n (rm room) q x → (∀ y, In n y → y < v → 0 < rm room (rd q x) y → y ∈ q) →
    Ev (fun k => impl_Net_flow.l4 k n a b room many fr q x v) r
  | 0, v, fr, q, hv, hd, hl, hb, hxq, hdone, hp => by
    have hlen := hb.length h0
    refine Ev.succ ?_
    simp only [impl_Net_flow.l4]
    rw [w64 (x := x + 1) (by omega)]
    refine Ev.neg (by omega) (hk fr q hl hb hxq (fun i hi0 hi hiq y hy hR => ?_))
    by_cases e : i = x
    · subst e; exact hp y hy (by have := hy.2; omega) hR
    · exact hdone i hi0 (by omega) hiq y hy hR
  | d + 1, v, fr, q, hv, hd, hl, hb, hxq, hdone, hp => by
    have hlen := hb.length h0
    have hvn : In n v := ⟨hv, by omega⟩
    have hu : rd q x ∈ q := (mem_iff_rd q _).2 ⟨x.toNat, by omega, by omega, by rw [show ((x.toNat : Nat) : Int) = x by omega]⟩
    have hui := hb.inn _ hu
    refine Ev.succ ?_
    simp only [impl_Net_flow.l4]
    rw [w64 (x := v + 1) (by omega)]
    refine Ev.pos (by omega) (Ev.pos hv (Ev.pos (by omega) ?_))
    by_cases hf : rd fr v < 0
    · refine Ev.pos hf (Ev.pos hx0 (Ev.pos hxq (Ev.pos hui.1 (Ev.pos (by have := hui.2; omega) ?_))))
      by_cases hR : room.getD (at2 (rd q x) v) 0 > 0
      · refine Ev.pos hR (Ev.pos (by omega) ?_)
        have hvq : v ∉ q := fun m => by have := (hb.mem v hvn).2 m; omega
        have hb' : Bfs n a (rm room) (rd (fr.set v.toNat (rd q x))) (q ++ [v]) := hb.more hu hvn (by omega) hR (fun y hy => by rw [rd_set fr v y (rd q x) hv (by omega) hy.1])
        refine ev_flow_l4 h0 h8 x hx0 hk d (v + 1) _ _ (by omega) (by omega) (by rw [List.length_set]; exact hl) hb' (by rw [List.length_append]; simp; omega) (fun i hi0 hi hiq y hy hRy => ?_) (fun y hy hyv hRy => ?_)
        · rw [rd_append_lt q [v] hi0 (by omega)] at hRy
          exact List.mem_append_left _ (hdone i hi0 hi (by omega) y hy hRy)
        · rw [rd_append_lt q [v] hx0 hxq] at hRy
          by_cases e : y = v
          · rw [e]; exact List.mem_append_right _ (by simp)
          · exact List.mem_append_left _ (hp y hy (by omega) hRy)
      · refine Ev.neg hR (ev_flow_l4 h0 h8 x hx0 hk d (v + 1) fr q (by omega) (by omega) hl hb hxq hdone (fun y hy hyv hRy => ?_))
        by_cases e : y = v
        · subst e; exact absurd hRy (by unfold rm; omega)
        · exact hp y hy (by omega) hRy
    · refine Ev.neg hf (ev_flow_l4 h0 h8 x hx0 hk d (v + 1) fr q (by omega) (by omega) hl hb hxq hdone (fun y hy hyv hRy => ?_))
      by_cases e : y = v
      · subst e; exact (hb.mem y hy).1 (by omega)
      · exact hp y hy (by omega) hRy
theorem ev_flow_l3 {n : Int} (h0 : 0 ≤ n) (h8 : n ≤ 8) {a b many r : Int} {room : List Int} (hb : In n b)
    (hend : ∀ (fr q : List Int), fr.length = 8 → Bfs n a (rm room) (rd fr) q → Done n (rm room) q q.length → Ev (fun k => if rd fr b < 0 then some many else impl_Net_flow.l5 k n a b room many fr b) r) :
    ∀ (d : Nat) (x : Int) (fr q : List Int), 0 ≤ x → x + d = 8 → fr.length = 8 → Bfs n a (rm room) (rd fr) q → x ≤ q.length → Done n (rm room) q x → Ev (fun k => impl_Net_flow.l3 k n a b room many fr q x) r
  | d, x, fr, q, hx0, hd, hl, hq, hxq, hdone => by
    have hlen := hq.length h0
    refine Ev.succ ?_
    simp only [impl_Net_flow.l3]
    by_cases hlt : x < q.length
    · refine Ev.pos hlt ?_
      match d, hd with
      | 0, hd => omega
      | d + 1, hd =>
        refine ev_flow_l4 h0 h8 x hx0 (fun fr' q' hl' hq' hxq' hd' => ?_) n.toNat 0 fr q (by omega) (by omega) hl hq hlt hdone (fun y hy hyv => by have := hy.1; omega)
        exact ev_flow_l3 h0 h8 hb hend d (x + 1) fr' q' (by omega) (by omega) hl' hq' (by omega) hd'
    · have e : x = q.length := by omega
      refine Ev.neg hlt (Ev.pos hb.1 (Ev.pos (by have := hb.2; omega) ?_))
      exact hend fr q hl hq (e ▸ hdone)
/-- The way back: room turned about on it. -/
theorem ev_flow_l5 {n : Int} (h8 : n ≤ 8) {E : List T} {a b many r : Int} {fr : List Int} (hmany : 0 ≤ many ∧ many ≤ 64)
    (hk : ∀ room : List Int, room.length = 64 → Room n E a b a many (rm room) → Ev (fun k => impl_Net_flow.l1 k n a b room (many + 1)) r) :
    ∀ (p : List Int) (v : Int) (room : List Int), room.length = 64 → Room n E a b v many (rm room) → Back n a (rd fr) (rm room) v p → Ev (fun k => impl_Net_flow.l5 k n a b room many fr v) r
  | [], v, room, hl, hR, hB => by
    have e : v = a := hB
    subst e
    refine Ev.succ ?_
    simp only [impl_Net_flow.l5]
    rw [w64 (by omega)]
    exact Ev.pos trivial (hk room hl hR)
  | w :: p, v, room, hl, hR, ⟨e, hva, hv, hp, hpv, hvp, h1, hB⟩ => by
    subst e
    have b1 := hR.le hp hv
    have b2 := hR.le hv hp
    refine Ev.succ ?_
    simp only [impl_Net_flow.l5]
    refine Ev.neg hva (Ev.pos hv.1 (Ev.pos (by have := hv.2; omega) (Ev.pos hp.1 (Ev.pos (by have := hp.2; omega) ?_))))
    have e1 : (room.set (at2 (rd fr w) w) (rm room (rd fr w) w - 1)).getD (at2 w (rd fr w)) 0 = rm room w (rd fr w) := by
      have := rm_set h8 hv hp hp hv hl (rm room (rd fr w) w - 1)
      rw [if_neg (fun e => hpv e.1.symm)] at this
      exact this
    rw [w64 (x := room.getD (at2 (rd fr w) w) 0 - 1) (by unfold rm at b1; omega)]
    rw [show room.getD (at2 (rd fr w) w) 0 = rm room (rd fr w) w from rfl, e1, w64 (by omega)]
    have hQ : ∀ x y, In n x → In n y → rm ((room.set (at2 (rd fr w) w) (rm room (rd fr w) w - 1)).set (at2 w (rd fr w)) (rm room w (rd fr w) + 1)) x y = rm room x y + (if x = rd fr w ∧ y = w then -1 else 0) + (if x = w ∧ y = rd fr w then 1 else 0) := fun x y hx hy => by
      rw [rm_set h8 hx hy hv hp (by rw [List.length_set]; exact hl), rm_set h8 hx hy hp hv hl]
      by_cases k1 : x = w ∧ y = rd fr w
      · rw [if_pos k1, if_pos k1, if_neg (fun k => hpv (k.1.symm.trans k1.1))]
        rw [k1.1, k1.2]; omega
      · rw [if_neg k1, if_neg k1]
        by_cases k2 : x = rd fr w ∧ y = w
        · rw [if_pos k2, if_pos k2, k2.1, k2.2]; omega
        · rw [if_neg k2, if_neg k2]; omega
    refine ev_flow_l5 h8 hmany hk p (rd fr w) _ (by rw [List.length_set, List.length_set]; exact hl) (hR.step hp hv hpv h1 hQ) (hB.congr (fun y hy => ⟨rfl, ?_⟩))
    have hyw : y ≠ w := fun e => hvp (e ▸ hy)
    have hyi : In n y ∧ In n (rd fr y) := by
      clear hQ
      revert hB hy
      generalize rd fr w = z
      intro hB hy
      induction p generalizing z with
      | nil => simp at hy
      | cons c p ih =>
        obtain ⟨e, _, g1, g2, _, g3, _, g4⟩ := hB
        subst e
        rcases List.mem_cons.1 hy with rfl | hy
        · exact ⟨g1, g2⟩
        · exact ih (fun m => hvp (List.mem_cons_of_mem _ m)) (rd fr c) g4 hy
    rw [hQ _ _ hyi.2 hyi.1, if_neg (fun k => hyw k.2)]
    split <;> omega
theorem ev_flow_l1 {n : Int} {E : List T} {a b : Int} (h : OK n E) (ha : In n a) (hb : In n b) (hab : a ≠ b) : ∀ (d : Nat) (many : Int) (room : List Int), 0 ≤ many → many + d = 65 → room.length = 64 → Room n E a b b many (rm room) → Ev (fun k => impl_Net_flow.l1 k n a b room many) (flow n E a b)
  | 0, many, room, hm, hd, hl, hR => by
    have := hR.many_le h.n0 h.n8 hab
    omega
  | d + 1, many, room, hm, hd, hl, hR => by
    have hle := hR.many_le h.n0 h.n8 hab
    refine Ev.succ ?_
    simp only [impl_Net_flow.l1]
    refine ev_flow_l2 ha.1 (by have := ha.2; have := h.n8; omega) (fun fr hfl hfr => ?_) 8 0 _ (by omega) (by simp) (fun x h0 h1 => by omega)
    have hst : Bfs n a (rm room) (rd fr) [a] := by
      refine ⟨fun x hx => ?_, fun x hx => ?_, by simp, by simp, fun x hx => ⟨[], by simp, List.mem_singleton.1 hx⟩⟩
      · rw [hfr x hx.1 (by have := hx.2; have := h.n8; omega), List.mem_singleton]
        by_cases e : x = a
        · rw [if_pos e]; exact ⟨fun _ => e, fun _ => ha.1⟩
        · rw [if_neg e]; exact ⟨fun k => by omega, fun k => absurd k e⟩
      · rw [List.mem_singleton.1 hx]; exact ha
    refine ev_flow_l3 h.n0 h.n8 hb (fun fr1 q hl1 hq hdone => ?_) 8 0 fr [a] (by omega) (by omega) hfl hst (by simp) (fun i h0 h1 => by omega)
    by_cases hf : rd fr1 b < 0
    · refine Ev.pos hf (Ev.some_ (Eq.symm (IsFlow.flow ?_)))
      refine hR.done (S := fun x => decide (0 ≤ rd fr1 x)) (by simpa using (hq.mem a ha).2 hq.start) (by simpa using hf) (fun x y hx hy h1 h2 => ?_)
      have h1 : 0 ≤ rd fr1 x := by simpa using h1
      have h2 : ¬ 0 ≤ rd fr1 y := by simpa using h2
      obtain ⟨i, hi0, hi, e⟩ := (mem_iff_rd q x).1 ((hq.mem x hx).1 h1)
      by_cases k : 0 < rm room x y
      · exact absurd ((hq.mem y hy).2 (hdone i (by omega) (by omega) (by omega) y hy (by rw [e]; exact k))) h2
      · omega
    · refine Ev.neg hf ?_
      obtain ⟨p, _, hB⟩ := hq.back b ((hq.mem b hb).1 (by omega))
      exact ev_flow_l5 h.n8 ⟨hm, hle⟩ (fun room' hl' hR' => ev_flow_l1 h ha hb hab d (many + 1) room' (by omega) (by omega) hl' hR'.turn) p b room hl hR hB
theorem ev_flow {n : Int} {E : List T} {a b : Int} (h : OK n E) (ha : In n a) (hb : In n b) (hab : a ≠ b) : Ev (fun k => impl_Net_flow.f k n E a b) (flow n E a b) := by
  simp only [impl_Net_flow.f]
  refine ev_flow_l0 h (fun room hl hr => ev_flow_l1 h ha hb hab 65 0 room (by omega) (by omega) hl ((Room.start n E a b).congr hr)) E.length 0 _ (by omega) (by simp) (fun x y hx hy => ?_)
  unfold rm cap
  rw [List.getD_eq_getElem?_getD, List.getElem?_replicate, if_pos (at2_lt h.n8 hx hy), List.take_zero, if_neg (by simp)]
  rfl
/-- A table of n rows of n numbers. -/
structure Tab (n : Int) (go : List (List Int)) : Prop where
  len : go.length = n.toNat
  row : Sq n.toNat go
theorem Tab.upd {n : Int} {go : List (List Int)} (h : Tab n go) (i j : Nat) (v : Int) : Tab n (upd go i j v) := ⟨by unfold F.upd; rw [List.length_set]; exact h.len, h.row.upd i j v⟩
theorem g2_upd {n : Int} {go : List (List Int)} (h : Tab n go) {x y u v : Int} (hx : In n x) (hy : In n y) (hu : In n u) (hv : In n v) (c : Int) : g2 (upd go u.toNat v.toNat c) x y = if x = u ∧ y = v then c else g2 go x y := by
  unfold In at hx hy hu hv
  have hl := h.len
  have hr := h.row u.toNat (by omega)
  unfold g2 upd
  by_cases e : x = u
  · subst e
    have e1 : (go.set x.toNat ((go.getD x.toNat []).set v.toNat c)).getD x.toNat [] = (go.getD x.toNat []).set v.toNat c := by
      rw [List.getD_eq_getElem?_getD, List.getElem?_set_self (by omega), Option.getD_some]
    rw [e1]
    by_cases e2 : y = v
    · subst e2
      rw [if_pos ⟨rfl, rfl⟩, List.getD_eq_getElem?_getD, List.getElem?_set_self (by omega), Option.getD_some]
    · rw [if_neg (fun k => e2 k.2), List.getD_eq_getElem?_getD, List.getElem?_set_ne (by omega), List.getD_eq_getElem?_getD (l := go.getD x.toNat [])]
  · rw [if_neg (fun k => e k.1)]
    have e1 : (go.set u.toNat ((go.getD u.toNat []).set v.toNat c)).getD x.toNat [] = go.getD x.toNat [] := by
      rw [List.getD_eq_getElem?_getD, List.getElem?_set_ne (by omega), List.getD_eq_getElem?_getD]
    rw [e1]
/-- Room that is left. -/
def left (E : List T) (go : List (List Int)) (x y : Int) : Int := cap E x y - g2 go x y
theorem left_pos {n : Int} {E : List T} {a b v many : Int} {go : List (List Int)} (h : Room n E a b v many (left E go)) {x y : Int} (hx : In n x) (hy : In n y) : 0 < left E go x y ↔ Has E x y ∧ g2 go x y < 1 := by
  have h1 := h.nonneg x y hx hy
  have h2 := h.nonneg y x hy hx
  have h3 := h.pair x y hx hy
  unfold left cap at *
  by_cases m : tie x y ∈ E
  · rw [if_pos m] at *
    exact ⟨fun k => ⟨m, by omega⟩, fun k => by omega⟩
  · rw [if_neg m] at *
    exact ⟨fun k => by omega, fun k => absurd k.1 m⟩
theorem Back.inn {n a : Int} {fr : Int → Int} {R : Int → Int → Int} : ∀ {p : List Int} {v : Int}, Back n a fr R v p → ∀ y ∈ p, In n y ∧ In n (fr y)
  | [], _, _, y, hy => by simp at hy
  | c :: p, v, ⟨e, _, g1, g2, _, _, _, g4⟩, y, hy => by
    subst e
    rcases List.mem_cons.1 hy with rfl | hy
    · exact ⟨g1, g2⟩
    · exact g4.inn y hy
theorem ev_more_l0 {n : Int} (h8 : n ≤ 8) {E : List T} {a b : Int} {go : List (List Int)} {r : Bool × List (List Int)} (ha : In n a) (hk : ∀ fr : List Int, (fr.length : Int) = n → (∀ x : Int, In n x → rd fr x = if x = a then a else -1) → Ev (fun k => spec_more.l1 k n E a b go fr [a]) r) :
    ∀ (d : Nat) (x : Int) (fr : List Int), 0 ≤ x → x + d = n → (fr.length : Int) = x → (∀ y : Int, 0 ≤ y → y < x → rd fr y = -1) → Ev (fun k => spec_more.l0 k n E a b go fr x) r
  | 0, x, fr, h0, hd, hl, hr => by
    refine Ev.succ ?_
    simp only [spec_more.l0]
    refine Ev.neg (by omega) (Ev.pos ha.1 (Ev.pos (by have := ha.2; omega) (hk _ (by rw [List.length_set]; omega) (fun y hy => ?_))))
    have := ha.2
    have := hy.2
    rw [rd_set fr a y a ha.1 (by omega) hy.1]
    by_cases e : y = a
    · rw [if_pos e, if_pos e]
    · rw [if_neg e, if_neg e]; exact hr y hy.1 (by omega)
  | d + 1, x, fr, h0, hd, hl, hr => by
    refine Ev.succ ?_
    simp only [spec_more.l0]
    refine Ev.pos (by omega) (Ev.pos (by omega) ?_)
    rw [w64 (by omega)]
    refine ev_more_l0 h8 ha hk d (x + 1) _ (by omega) (by omega) (by simp; omega) (fun y hy0 hy => ?_)
    unfold rd
    rw [List.getD_eq_getElem?_getD]
    by_cases e : y < x
    · rw [List.getElem?_append_left (by omega), ← List.getD_eq_getElem?_getD]
      exact hr y hy0 e
    · rw [List.getElem?_append_right (by omega), show y.toNat - fr.length = 0 by omega]; rfl
/-- The way back: what goes is one more on it. -/
theorem ev_more_l3 {n : Int} (h8 : n ≤ 8) {E : List T} {a b many : Int} {fr : List Int} (hl : (fr.length : Int) = n) :
    ∀ (p : List Int) (v : Int) (go : List (List Int)), Tab n go → Room n E a b v many (left E go) → Back n a (rd fr) (left E go) v p → ∃ go', Ev (fun k => spec_more.l3 k n E a b go fr v) (true, go') ∧ Tab n go' ∧ Room n E a b a many (left E go')
  | [], v, go, ht, hR, hB => by
    have e : v = a := hB
    subst e
    refine ⟨go, Ev.succ ?_, ht, hR⟩
    simp only [spec_more.l3]
    exact Ev.pos trivial (Ev.now _)
  | w :: p, v, go, ht, hR, hBB => by
    have hinn := Back.inn hBB
    obtain ⟨e, hva, hv, hp, hpv, hvp, h1, hB⟩ := hBB
    subst e
    have b1 := hR.le hp hv
    have b2 := hR.le hv hp
    have c1 := cap_nonneg E (rd fr w) w
    have c2 := cap_le E (rd fr w) w
    have c3 := cap_nonneg E w (rd fr w)
    have c4 := cap_le E w (rd fr w)
    have e1 : g2 (upd go (rd fr w).toNat w.toNat (g2 go (rd fr w) w + 1)) w (rd fr w) = g2 go w (rd fr w) := by
      rw [g2_upd ht hv hp hp hv, if_neg (fun k => hpv k.1.symm)]
    have hQ : ∀ x y, In n x → In n y → left E (upd (upd go (rd fr w).toNat w.toNat (g2 go (rd fr w) w + 1)) w.toNat (rd fr w).toNat (g2 go w (rd fr w) - 1)) x y = left E go x y + (if x = rd fr w ∧ y = w then -1 else 0) + (if x = w ∧ y = rd fr w then 1 else 0) := fun x y hx hy => by
      unfold left
      rw [g2_upd (ht.upd _ _ _) hx hy hv hp, g2_upd ht hx hy hp hv]
      by_cases k1 : x = w ∧ y = rd fr w
      · rw [if_pos k1, if_pos k1, if_neg (fun k => hpv (k.1.symm.trans k1.1))]
        rw [k1.1, k1.2]; omega
      · rw [if_neg k1, if_neg k1]
        by_cases k2 : x = rd fr w ∧ y = w
        · rw [if_pos k2, if_pos k2, k2.1, k2.2]; omega
        · rw [if_neg k2, if_neg k2]; omega
    obtain ⟨go', hgo, ht', hR'⟩ := ev_more_l3 h8 (b := b) hl p (rd fr w) _ ((ht.upd (rd fr w).toNat w.toNat (g2 go (rd fr w) w + 1)).upd w.toNat (rd fr w).toNat (g2 go w (rd fr w) - 1)) (hR.step hp hv hpv h1 hQ) (hB.congr (fun y hy => ⟨rfl, by
      have hyw : y ≠ w := fun e => hvp (e ▸ hy)
      have hyi := hinn y (List.mem_cons_of_mem _ hy)
      rw [hQ _ _ hyi.2 hyi.1, if_neg (fun k => hyw k.2)]
      split <;> omega⟩))
    refine ⟨go', Ev.succ ?_, ht', hR'⟩
    simp only [spec_more.l3]
    unfold left at b1 b2
    refine Ev.neg hva (Ev.pos hv.1 (Ev.pos (by have := hv.2; omega) (Ev.pos hv.2 (Ev.pos hp.1 (Ev.pos hp.2 ?_)))))
    rw [w64 (x := g2 go (rd fr w) w + 1) (by omega), e1, w64 (by omega)]
    exact hgo
/-- What the row's elder knots lead to is come to. -/
def Led (n : Int) (R : Int → Int → Int) (pre q : List Int) : Prop := ∀ u ∈ pre, ∀ x, In n x → 0 < R u x → x ∈ q
/-- Ahead of a round. -/
structure L1 (n : Int) (E : List T) (a b : Int) (go : List (List Int)) (fr pre row : List Int) : Prop where
  len : (fr.length : Int) = n
  bfs : Bfs n a (left E go) (rd fr) (pre ++ row)
  led : Led n (left E go) pre (pre ++ row)
  seen : 0 ≤ rd fr b → b ∈ row
theorem ev_more_l2 {n : Int} {E : List T} (h : OK n E) {a b many : Int} {go : List (List Int)} (hR : Room n E a b b many (left E go)) (hbi : In n b) (at_ : Int) (pre : List Int) :
    ∀ (d : Nat) (x : Int) (fr row : List Int), 0 ≤ x → x + d = n → (fr.length : Int) = n → Bfs n a (left E go) (rd fr) (pre ++ at_ :: row) → Led n (left E go) pre (pre ++ at_ :: row) → (∀ y, In n y → y < x → 0 < left E go at_ y → y ∈ pre ++ at_ :: row) → (0 ≤ rd fr b → b ∈ row) →
    ∃ fr' row' : List Int, L1 n E a b go fr' (pre ++ [at_]) row' ∧ ∀ r, Ev (fun k => spec_more.l1 k n E a b go fr' row') r → Ev (fun k => spec_more.l2 k n E a b go fr row at_ x) r
  | 0, x, fr, row, h0, hd, hl, hq, hL, hp, hb => by
    have e : (pre ++ [at_]) ++ row = pre ++ at_ :: row := by simp
    refine ⟨fr, row, ⟨hl, by rw [e]; exact hq, fun u hu y hy hRy => ?_, hb⟩, fun r hr => Ev.succ ?_⟩
    · rw [e]
      rcases List.mem_append.1 hu with m | m
      · exact hL u m y hy hRy
      · rw [List.mem_singleton.1 m] at hRy
        exact hp y hy (by have := hy.2; omega) hRy
    · simp only [spec_more.l2]
      exact Ev.neg (by omega) hr
  | d + 1, x, fr, row, h0, hd, hl, hq, hL, hp, hb => by
    have h8 := h.n8
    have hlE := h.length
    have hqlen := hq.length h.n0
    have hxn : In n x := ⟨h0, by omega⟩
    have hat : at_ ∈ pre ++ at_ :: row := by simp
    have hai := hq.inn _ hat
    have hlp := left_pos hR hai hxn
    have hnext : ¬ (rd fr x < 0 ∧ 0 < left E go at_ x) → ∃ fr' row' : List Int, L1 n E a b go fr' (pre ++ [at_]) row' ∧ ∀ r, Ev (fun k => spec_more.l1 k n E a b go fr' row') r → Ev (fun k => spec_more.l2 k n E a b go fr row at_ (x + 1)) r := fun hno => by
      refine ev_more_l2 h hR hbi at_ pre d (x + 1) fr row (by omega) (by omega) hl hq hL (fun y hy hyx hRy => ?_) hb
      by_cases e : y = x
      · subst e
        exact (hq.mem y hy).1 (by omega)
      · exact hp y hy (by omega) hRy
    by_cases hf : rd fr x < 0
    · by_cases hh : Has E at_ x
      · by_cases hg : g2 go at_ x < 1
        · have hrow : row.length ≤ 8 := by
            simp only [List.length_append, List.length_cons] at hqlen
            omega
          have hpos := hlp.2 ⟨hh, hg⟩
          have e : pre ++ at_ :: row ++ [x] = pre ++ at_ :: (row ++ [x]) := by simp
          have hq' := hq.more (fr' := rd (fr.set x.toNat at_)) hat hxn (by omega) (by omega) (fun y hy => by rw [rd_set fr x y at_ h0 (by omega) hy.1])
          rw [e] at hq'
          have up : ∀ y, y ∈ pre ++ at_ :: row → y ∈ pre ++ at_ :: (row ++ [x]) := fun y hy => by rw [← e]; exact List.mem_append_left _ hy
          obtain ⟨fr', row', hi, hk⟩ := ev_more_l2 h hR hbi at_ pre d (x + 1) (fr.set x.toNat at_) (row ++ [x]) (by omega) (by omega) (by rw [List.length_set]; exact hl) hq' (fun u hu y hy hRy => up y (hL u hu y hy hRy)) (fun y hy hyx hRy => by
            by_cases e2 : y = x
            · rw [e2]; simp
            · exact up y (hp y hy (by omega) hRy)) (fun hbb => by
            by_cases e2 : b = x
            · rw [e2]; simp
            · rw [rd_set fr x b at_ h0 (by omega) hbi.1, if_neg e2] at hbb
              exact List.mem_append_left _ (hb hbb))
          refine ⟨fr', row', hi, fun r hr => Ev.succ ?_⟩
          simp only [spec_more.l2]
          rw [w64 (x := x + 1) (by omega)]
          exact Ev.pos hxn.2 (Ev.pos h0 (Ev.pos (by omega) (Ev.pos hf (Ev.bind (ev_l1Has n E at_ x (by omega)) (Ev.pos (dec_t hh) (Ev.pos hai.1 (Ev.pos hai.2 (Ev.pos hg (Ev.pos (by omega) (hk r hr))))))))))
        · obtain ⟨fr', row', hi, hk⟩ := hnext (fun k => hg (hlp.1 k.2).2)
          refine ⟨fr', row', hi, fun r hr => Ev.succ ?_⟩
          simp only [spec_more.l2]
          rw [w64 (x := x + 1) (by omega)]
          exact Ev.pos hxn.2 (Ev.pos h0 (Ev.pos (by omega) (Ev.pos hf (Ev.bind (ev_l1Has n E at_ x (by omega)) (Ev.pos (dec_t hh) (Ev.pos hai.1 (Ev.pos hai.2 (Ev.neg hg (hk r hr)))))))))
      · obtain ⟨fr', row', hi, hk⟩ := hnext (fun k => hh (hlp.1 k.2).1)
        refine ⟨fr', row', hi, fun r hr => Ev.succ ?_⟩
        simp only [spec_more.l2]
        rw [w64 (x := x + 1) (by omega)]
        exact Ev.pos hxn.2 (Ev.pos h0 (Ev.pos (by omega) (Ev.pos hf (Ev.bind (ev_l1Has n E at_ x (by omega)) (Ev.neg (by rw [dec_f hh]; simp) (hk r hr))))))
    · obtain ⟨fr', row', hi, hk⟩ := hnext (fun k => hf k.1)
      refine ⟨fr', row', hi, fun r hr => Ev.succ ?_⟩
      simp only [spec_more.l2]
      rw [w64 (x := x + 1) (by omega)]
      exact Ev.pos hxn.2 (Ev.pos h0 (Ev.pos (by omega) (Ev.neg hf (hk r hr))))
/-- What 'more' leaves. -/
def More (n : Int) (E : List T) (a b many : Int) (t : Bool × List (List Int)) : Prop := Tab n t.2 ∧ (t.1 = true ∧ Room n E a b a many (left E t.2) ∨ t.1 = false ∧ IsFlow n E a b many)
theorem ev_more_l1 {n : Int} {E : List T} (h : OK n E) {a b many : Int} {go : List (List Int)} (ht : Tab n go) (hR : Room n E a b b many (left E go)) (ha : In n a) (hb : In n b) : ∀ (d : Nat) (fr pre row : List Int), pre.length + d = 9 → L1 n E a b go fr pre row → ∃ t, Ev (fun k => spec_more.l1 k n E a b go fr row) t ∧ More n E a b many t
  | d, fr, pre, [], hd, hi => by
    have hbn : rd fr b < 0 := by
      by_cases k : 0 ≤ rd fr b
      · have := hi.seen k; simp at this
      · omega
    have hbl := hb.2
    have hfl := hi.len
    refine ⟨(false, go), Ev.succ ?_, ht, Or.inr ⟨rfl, ?_⟩⟩
    · simp only [spec_more.l1]
      exact Ev.pos hb.1 (Ev.pos (by omega) (Ev.neg (by simp) (Ev.pos hbn (Ev.now _))))
    · have hq := hi.bfs
      have hL := hi.led
      rw [List.append_nil] at hq hL
      refine hR.done (S := fun x => decide (0 ≤ rd fr x)) (by simpa using (hq.mem a ha).2 hq.start) (by simpa using hbn) (fun x y hx hy h1 h2 => ?_)
      have h1 : 0 ≤ rd fr x := by simpa using h1
      have h2 : ¬ 0 ≤ rd fr y := by simpa using h2
      by_cases k : 0 < left E go x y
      · exact absurd ((hq.mem y hy).2 (hL x ((hq.mem x hx).1 h1) y hy k)) h2
      · omega
  | d, fr, pre, at_ :: row, hd, hi => by
    have hbl := hb.2
    have hfl := hi.len
    have h8 := h.n8
    have hql := hi.bfs.length h.n0
    simp only [List.length_append, List.length_cons] at hql
    by_cases hf : rd fr b < 0
    · obtain ⟨fr', row', hi', hk⟩ := ev_more_l2 h hR hb at_ pre n.toNat 0 fr row (by omega) (by have := h.n0; omega) hfl hi.bfs hi.led (fun y hy hy0 => by have := hy.1; omega) (fun k => by omega)
      match d, hd with
      | 0, hd => omega
      | d + 1, hd =>
        obtain ⟨t, hev, hm⟩ := ev_more_l1 h ht hR ha hb d fr' (pre ++ [at_]) row' (by rw [List.length_append]; simp; omega) hi'
        refine ⟨t, Ev.succ ?_, hm⟩
        simp only [spec_more.l1]
        exact Ev.pos hb.1 (Ev.pos (by omega) (Ev.pos (by simp) (Ev.pos hf (hk t hev))))
    · obtain ⟨p, _, hB⟩ := hi.bfs.back b ((hi.bfs.mem b hb).1 (by omega))
      obtain ⟨go', hev, ht', hR'⟩ := ev_more_l3 h8 hfl p b go ht hR hB
      refine ⟨(true, go'), Ev.succ ?_, ht', Or.inl ⟨rfl, hR'⟩⟩
      simp only [spec_more.l1]
      exact Ev.pos hb.1 (Ev.pos (by omega) (Ev.pos (by simp) (Ev.neg hf hev)))
theorem ev_more {n : Int} {E : List T} (h : OK n E) {a b many : Int} {go : List (List Int)} (ht : Tab n go) (hR : Room n E a b b many (left E go)) (ha : In n a) (hb : In n b) (hab : a ≠ b) : ∃ t, Ev (fun k => spec_more.f k n E a b go) t ∧ More n E a b many t := by
  have h8 := h.n8
  have h0 := h.n0
  have key : ∃ fr : List Int, (fr.length : Int) = n ∧ (∀ x : Int, In n x → rd fr x = if x = a then a else -1) ∧ ∀ r, Ev (fun k => spec_more.l1 k n E a b go fr [a]) r → Ev (fun k => spec_more.f k n E a b go) r := by
    refine ⟨(List.replicate n.toNat (-1)).set a.toNat a, by rw [List.length_set, List.length_replicate]; omega, fun x hx => ?_, fun r hr => ?_⟩
    · have := hx.2
      have := ha.2
      rw [rd_set _ a x a ha.1 (by rw [List.length_replicate]; omega) hx.1]
      by_cases e : x = a
      · rw [if_pos e, if_pos e]
      · rw [if_neg e, if_neg e]
        unfold rd
        have := hx.1
        rw [List.getD_eq_getElem?_getD, List.getElem?_replicate, if_pos (by omega)]; rfl
    · simp only [spec_more.f]
      refine ev_more_l0 h8 ha (fun fr hfl hfr => ?_) n.toNat 0 [] (by omega) (by omega) (by simp) (fun y h1 h2 => by omega)
      have e : fr = (List.replicate n.toNat (-1)).set a.toNat a := by
        refine ext_rd (by rw [List.length_set, List.length_replicate]; omega) (fun x h1 h2 => ?_)
        have := ha.2
        rw [hfr x ⟨h1, by omega⟩, rd_set _ a x a ha.1 (by rw [List.length_replicate]; omega) h1]
        by_cases e : x = a
        · rw [if_pos e, if_pos e]
        · rw [if_neg e, if_neg e]
          unfold rd
          rw [List.getD_eq_getElem?_getD, List.getElem?_replicate, if_pos (by omega)]; rfl
      rw [e]; exact hr
  obtain ⟨fr, hfl, hfr, hk⟩ := key
  have hst : Bfs n a (left E go) (rd fr) [a] := by
    refine ⟨fun x hx => ?_, fun x hx => ?_, by simp, by simp, fun x hx => ⟨[], by simp, List.mem_singleton.1 hx⟩⟩
    · rw [hfr x hx, List.mem_singleton]
      by_cases e : x = a
      · rw [if_pos e]; exact ⟨fun _ => e, fun _ => ha.1⟩
      · rw [if_neg e]; exact ⟨fun k => by omega, fun k => absurd k e⟩
    · rw [List.mem_singleton.1 hx]; exact ha
  obtain ⟨t, hev, hm⟩ := ev_more_l1 h ht hR ha hb 9 fr [] [a] (by simp) ⟨hfl, hst, fun u hu => by simp at hu, fun k => by rw [hfr b hb, if_neg (fun e => hab e.symm)] at k; omega⟩
  exact ⟨t, hk t hev, hm⟩
theorem ev_FlowCount_l1 {n : Int} {E : List T} (h : OK n E) {a b : Int} (ha : In n a) (hb : In n b) (hab : a ≠ b) : ∀ (d : Nat) (many : Int) (go : List (List Int)), 0 ≤ many → many + d = 65 → Tab n go → Room n E a b b many (left E go) → Ev (fun k => spec_FlowCount.l1 k n E a b go many) (flow n E a b)
  | d, many, go, hm, hd, ht, hR => by
    have hle := hR.many_le h.n0 h.n8 hab
    obtain ⟨⟨t, go'⟩, hev, ht', hcase⟩ := ev_more h ht hR ha hb hab
    refine Ev.succ ?_
    simp only [spec_FlowCount.l1]
    refine Ev.bind hev ?_
    dsimp only
    rcases hcase with ⟨e, hR'⟩ | ⟨e, hF⟩
    · refine Ev.pos e ?_
      rw [w64 (by omega)]
      match d, hd with
      | 0, hd => omega
      | d + 1, hd => exact ev_FlowCount_l1 h ha hb hab d (many + 1) go' (by omega) (by omega) ht' hR'.turn
    · exact Ev.neg (by dsimp only at e; rw [e]; simp) (Ev.some_ hF.flow.symm)
theorem ev_FlowCount_l0 {n : Int} {E : List T} (h : OK n E) {a b : Int} (ha : In n a) (hb : In n b) (hab : a ≠ b) : ∀ (d : Nat) (x : Int) (go : List (List Int)), 0 ≤ x → x + d = n → go = List.replicate x.toNat (List.replicate n.toNat 0) → Ev (fun k => spec_FlowCount.l0 k n E a b go x) (flow n E a b)
  | 0, x, go, h0, hd, hg => by
    have hn := ha.1
    have hn2 := ha.2
    have e : x = n := by omega
    subst e
    refine Ev.succ ?_
    simp only [spec_FlowCount.l0]
    refine Ev.neg (by omega) (Ev.pos (by omega) (Ev.pos (by rw [hg, List.length_replicate]; omega) ?_))
    refine ev_FlowCount_l1 h ha hb hab 65 0 go (by omega) (by omega) ⟨by rw [hg, List.length_replicate], fun i hi => ?_⟩ ((Room.start x E a b).congr (fun y z hy hz => ?_))
    · rw [hg, List.getD_eq_getElem?_getD, List.getElem?_replicate, if_pos hi, Option.getD_some, List.length_replicate]
    · have := hy.1
      have := hy.2
      have := hz.1
      have := hz.2
      unfold left g2
      have e1 : go.getD y.toNat [] = List.replicate x.toNat 0 := by
        rw [hg, List.getD_eq_getElem?_getD, List.getElem?_replicate, if_pos (by omega), Option.getD_some]
      rw [e1, List.getD_eq_getElem?_getD, List.getElem?_replicate, if_pos (by omega), Option.getD_some]
      omega
  | d + 1, x, go, h0, hd, hg => by
    have hn := ha.1
    have hn2 := ha.2
    have h8 := h.n8
    refine Ev.succ ?_
    simp only [spec_FlowCount.l0]
    refine Ev.pos (by omega) (Ev.pos (by omega) (Ev.pos (by omega) (Ev.pos (by rw [hg, List.length_replicate]; omega) ?_)))
    rw [w64 (by omega)]
    refine ev_FlowCount_l0 h ha hb hab d (x + 1) _ (by omega) (by omega) ?_
    rw [hg, show (x + 1).toNat = x.toNat + 1 by omega, List.replicate_succ']
/-- How much goes between two knots; of no two knots -1. -/
noncomputable def flowCount (n : Int) (E : List T) (a b : Int) : Int := @ite _ (Two2 n E a b) (Classical.propDecidable _) (flow n E a b) (-1)
theorem flowCount_t {n : Int} {E : List T} {a b : Int} (h : Two2 n E a b) : flowCount n E a b = flow n E a b := by unfold flowCount; rw [if_pos h]
theorem flowCount_f {n : Int} {E : List T} {a b : Int} (h : ¬ Two2 n E a b) : flowCount n E a b = -1 := by unfold flowCount; rw [if_neg h]
theorem ev_spec_FlowCount (n : Int) (E : List T) (a b : Int) (hE : E.length ≤ 1048576) (hw : WF E) : Ev (fun k => spec_FlowCount.f k n E a b) (flowCount n E a b) := by
  simp only [spec_FlowCount.f]
  refine Ev.bind (ev_l1Knot n E a hE hw) ?_
  by_cases h1 : OK n E ∧ In n a
  · refine Ev.pos (dec_t h1) (Ev.bind (ev_l1Knot n E b hE hw) ?_)
    by_cases h2 : OK n E ∧ In n b
    · refine Ev.pos (dec_t h2) ?_
      by_cases h3 : a = b
      · refine Ev.pos h3 (Ev.some_ (flowCount_f (fun k => k.2.2.2 h3)).symm)
      · refine Ev.neg h3 ?_
        rw [flowCount_t ⟨h1.1, h1.2, h2.2, h3⟩]
        exact ev_FlowCount_l0 h1.1 h1.2 h2.2 h3 n.toNat 0 [] (by omega) (by have := h1.1.n0; omega) rfl
    · exact Ev.neg (by rw [dec_f h2]; simp) (Ev.some_ (flowCount_f (fun k => h2 ⟨k.1, k.2.2.1⟩)).symm)
  · exact Ev.neg (by rw [dec_f h1]; simp) (Ev.some_ (flowCount_f (fun k => h1 ⟨k.1, k.2.1⟩)).symm)
theorem ev_impl_FlowCount (n : Int) (E : List T) (a b : Int) (hE : E.length ≤ 1048576) : Ev (fun k => impl_FlowCount.f k n E a b) (flowCount n E a b) := by
  simp only [impl_FlowCount.f]
  refine Ev.bind (ev_twoKnots n E a b hE) ?_
  by_cases h : Two2 n E a b
  · rw [flowCount_t h]
    exact Ev.pos (dec_t h) (Ev.bind (ev_flow h.1 h.2.1 h.2.2.1 h.2.2.2) (Ev.now _))
  · rw [flowCount_f h]
    exact Ev.neg (by rw [dec_f h]; simp) (Ev.now _)
theorem l1Copy (n : Int) (E : List T) (hE : E.length ≤ 1048576) : spec_l1Copy.f n E = some (n, E) := by
  unfold spec_l1Copy.f
  simp only [Option.bind_some, List.nil_append, List.length_nil]
  rw [if_pos (by omega)]
theorem xor_nonneg {x y : Int} (hx : 0 ≤ x ∧ x < 4611686018427387904) (hy : 0 ≤ y ∧ y < 4611686018427387904) : 0 ≤ Go.bits .xor .i64 x y := by
  have hlt : x.toNat ^^^ y.toNat < 2 ^ 62 := Nat.xor_lt_two_pow (by omega) (by omega)
  have e : (BitVec.ofInt 64 x ^^^ BitVec.ofInt 64 y).toNat = x.toNat ^^^ y.toNat := by
    rw [BitVec.toNat_xor, BitVec.toNat_ofInt, BitVec.toNat_ofInt]
    congr 1 <;> omega
  unfold Go.bits
  show 0 ≤ Go.IntKind.wrap .i64 ((BitVec.ofInt 64 x ^^^ BitVec.ofInt 64 y).toNat : Int)
  rw [e]
  rw [i64_w, w64 (by omega)]
  omega
/-- Bytes that are read. -/
def Bytes (s : List Int) : Prop := s.length ≤ 2000 ∧ ∀ x ∈ s, 0 ≤ x ∧ x ≤ 255
theorem Bytes.rd {s : List Int} (h : Bytes s) {i : Int} (h0 : 0 ≤ i) (h1 : i < s.length) : 0 ≤ rd s i ∧ rd s i ≤ 255 := by
  rw [rd_i s i h0 h1]
  exact h.2 _ (List.getElem_mem _)
/-- A draw of a number below another one: what it reads is one step further on. -/
theorem ev_pick {s : List Int} (h : Bytes s) {p : Int} (hp : 0 ≤ p ∧ p ≤ 1000000) (m : Int) (hm : m ≤ 1000000000) : ∃ v, Ev (fun k => spec_l6Rd_pick.f k s p m) (v, p + 1) ∧ (1 ≤ m → 0 ≤ v ∧ v < m) ∧ 0 ≤ v ∧ (v < m ∨ v = 0) := by
  by_cases hb : m < 1 ∨ s.length = 0
  · refine ⟨0, ?_, fun _ => by omega, by omega, Or.inr rfl⟩
    simp only [spec_l6Rd_pick.f]
    rw [w64 (x := p + 1) (by omega)]
    have j : Ev (fun k => spec_l6Rd_pick.j0 k m true s (p + 1)) (0, p + 1) := by
      refine Ev.succ ?_
      simp only [spec_l6Rd_pick.j0]
      exact Ev.pos trivial (Ev.now _)
    by_cases h1 : m < 1
    · exact Ev.pos h1 j
    · refine Ev.neg h1 ?_
      have e : ((s.length : Int) == 0) = true := by rw [beq_iff_eq]; omega
      rw [e]; exact j
  · have h1 : ¬ m < 1 := fun k => hb (Or.inl k)
    have h2 : ¬ s.length = 0 := fun k => hb (Or.inr k)
    have e : ((s.length : Int) == 0) = false := by rw [beq_eq_false_iff_ne]; omega
    have hl := h.1
    by_cases hk : p < s.length
    · have hr := h.rd hp.1 hk
      have hv := Int.tmod_nonneg m hr.1
      have hv' := Int.tmod_lt_of_pos (rd s p) (show 0 < m by omega)
      refine ⟨Int.tmod (rd s p) m, ?_, fun _ => ⟨hv, hv'⟩, hv, Or.inl hv'⟩
      simp only [spec_l6Rd_pick.f]
      rw [w64 (x := p + 1) (by omega), e]
      refine Ev.neg h1 (Ev.succ ?_)
      simp only [spec_l6Rd_pick.j0]
      rw [show p + 1 - 1 = p by omega, w64 (x := p) (by omega), w64 (x := rd s p) (by omega)]
      exact Ev.neg (by simp) (Ev.pos hk (Ev.pos hp.1 (Ev.neg (by omega) (Ev.now _))))
    · have hL : (0 : Int) < s.length := by omega
      have a0 := Int.tmod_nonneg (s.length : Int) hp.1
      have a1 := Int.tmod_lt_of_pos p hL
      have b0 := Int.tmod_nonneg (s.length : Int) (show 0 ≤ p * 7 + 3 by omega)
      have b1 := Int.tmod_lt_of_pos (p * 7 + 3) hL
      have ra := h.rd a0 a1
      have rb := h.rd b0 b1
      have d0 := Int.tdiv_nonneg hp.1 (show 0 ≤ (s.length : Int) by omega)
      have d1 : Int.tdiv p s.length ≤ p := Int.tdiv_le_self _ hp.1
      generalize hA : rd s (Int.tmod p s.length) = A at ra
      generalize hB : rd s (Int.tmod (p * 7 + 3) s.length) = B at rb
      generalize hD : Int.tdiv p s.length = D at d0 d1
      have q0 := Int.tdiv_nonneg (show 0 ≤ A * 131 + B * 1117 + p * 29 + D * 53 by omega) (show (0 : Int) ≤ 64 by omega)
      have q1 : Int.tdiv (A * 131 + B * 1117 + p * 29 + D * 53) 64 ≤ A * 131 + B * 1117 + p * 29 + D * 53 := Int.tdiv_le_self _ (by omega)
      have hx := xor_nonneg (x := A * 131 + B * 1117 + p * 29 + D * 53) (y := Int.tdiv (A * 131 + B * 1117 + p * 29 + D * 53) 64) (by omega) (by omega)
      have hv := Int.tmod_nonneg m hx
      have hv' := Int.tmod_lt_of_pos (Go.bits .xor .i64 (A * 131 + B * 1117 + p * 29 + D * 53) (Int.tdiv (A * 131 + B * 1117 + p * 29 + D * 53) 64)) (show 0 < m by omega)
      refine ⟨_, ?_, fun _ => ⟨hv, hv'⟩, hv, Or.inl hv'⟩
      simp only [spec_l6Rd_pick.f]
      rw [w64 (x := p + 1) (by omega), e]
      refine Ev.neg h1 (Ev.succ ?_)
      simp only [spec_l6Rd_pick.j0]
      rw [show p + 1 - 1 = p by omega, w64 (x := p) (by omega), w64 (x := p * 7) (by omega), w64 (x := p * 7 + 3) (by omega)]
      refine Ev.neg (by simp) (Ev.neg hk (Ev.neg (by omega) (Ev.pos a0 (Ev.pos a1 (Ev.pos b0 (Ev.pos b1 (Ev.neg (by omega) ?_)))))))
      rw [hA, hB, hD, w64 (x := A) (by omega), w64 (x := A * 131) (by omega), w64 (x := B) (by omega), w64 (x := B * 1117) (by omega), w64 (x := A * 131 + B * 1117) (by omega), w64 (x := p * 29) (by omega), w64 (x := A * 131 + B * 1117 + p * 29) (by omega),
        w64 (x := D) (by omega), w64 (x := D * 53) (by omega), w64 (x := A * 131 + B * 1117 + p * 29 + D * 53) (by omega), w64 (x := Int.tdiv (A * 131 + B * 1117 + p * 29 + D * 53) 64) (by omega)]
      exact Ev.now _
theorem l6Open (s : List Int) (h : s.length ≤ maxLen ∧ ∀ x ∈ s, (Lit.int .u8 x).wf = true) : ∃ s', spec_l6Open.f s = some (s', 0) ∧ Bytes s' := by
  unfold spec_l6Open.f
  by_cases h1 : (s.length : Int) > 2000
  · rw [if_pos h1, if_pos (by omega)]
    exact ⟨_, rfl, by rw [List.length_take]; omega, fun x hx => wf_u8 (h.2 x (List.mem_of_mem_take hx))⟩
  · rw [if_neg h1]
    exact ⟨_, rfl, by omega, fun x hx => wf_u8 (h.2 x hx)⟩
/-- Ties with one more, in order. -/
def insT (t : T) : List T → List T
  | [] => [t]
  | s :: r => if lt t s then t :: s :: r else s :: insT t r
theorem mem_insT {t u : T} : ∀ {E : List T}, u ∈ insT t E ↔ u = t ∨ u ∈ E
  | [] => by simp [insT]
  | s :: r => by
    unfold insT
    split
    · simp
    · simp only [List.mem_cons, mem_insT (E := r)]
      constructor
      · rintro (h | h | h)
        · exact Or.inr (Or.inl h)
        · exact Or.inl h
        · exact Or.inr (Or.inr h)
      · rintro (h | h | h)
        · exact Or.inr (Or.inl h)
        · exact Or.inl h
        · exact Or.inr (Or.inr h)
theorem asc_insT {t : T} : ∀ {E : List T}, Asc E → t ∉ E → Asc (insT t E)
  | [], _, _ => by simp [insT, Asc]
  | s :: r, h, hn => by
    have hs := List.pairwise_cons.1 h
    unfold insT
    split
    · next hl =>
      refine List.pairwise_cons.2 ⟨fun u hu => ?_, h⟩
      rcases List.mem_cons.1 hu with rfl | hu
      · exact hl
      · exact lt_trans hl (hs.1 u hu)
    · next hl =>
      refine List.pairwise_cons.2 ⟨fun u hu => ?_, asc_insT hs.2 (fun k => hn (List.mem_cons_of_mem _ k))⟩
      rcases mem_insT.1 hu with rfl | hu
      · rcases lt_tri s u with k | k | k
        · exact k
        · exact absurd (by rw [k]; exact List.mem_cons_self) hn
        · exact absurd k hl
      · exact hs.1 u hu
theorem OK.ins {n : Int} {E : List T} (h : OK n E) {a b : Int} (ha : In n a) (hb : In n b) (hab : a ≠ b) (hn : ¬ Has E a b) : OK n (insT (Th.tie a b) E) := by
  refine ⟨h.n0, h.n8, fun t ht => ?_, asc_insT h.asc hn⟩
  rcases mem_insT.1 ht with rfl | ht
  · unfold In at ha hb
    unfold Th.tie
    split <;> dsimp only <;> omega
  · exact h.tie t ht
theorem ev_NetAdd_done {n : Int} {E : List T} (t : T) (hE : E.length ≤ 1048576) : ∀ (d i : Nat) (out : List T), i + d = E.length → out.length ≤ i + 1 → Ev (fun k => spec_NetAdd.l0 k true i n E n out t.f0 t.f1) (n, out ++ E.drop i, true)
  | 0, i, out, h, hl => by
    refine Ev.succ ?_
    simp only [spec_NetAdd.l0]
    refine Ev.neg (by omega) (Ev.pos trivial (Ev.some_ ?_))
    rw [List.drop_of_length_le (by omega)]; simp
  | d + 1, i, out, h, hl => by
    have hi : i < E.length := by omega
    refine Ev.succ ?_
    simp only [spec_NetAdd.l0, rd_T_nat E i hi]
    refine Ev.pos (by omega) (Ev.pos trivial (Ev.pos (by omega) (Ev.pos (by omega) ?_)))
    rw [w64 (by omega), List.drop_eq_getElem_cons hi]
    refine Ev.cast (ev_NetAdd_done (n := n) t hE d (i + 1) (out ++ [E[i]]) (by omega) (by simp only [List.length_append, List.length_singleton]; omega)) ?_
    simp
theorem ev_NetAdd_loop {n : Int} {E : List T} (t : T) (hE : E.length ≤ 1048576) : ∀ (d i : Nat) (out : List T), i + d = E.length → out.length ≤ i → Ev (fun k => spec_NetAdd.l0 k false i n E n out t.f0 t.f1) (n, out ++ insT t (E.drop i), true)
  | 0, i, out, h, hl => by
    refine Ev.succ ?_
    simp only [spec_NetAdd.l0]
    refine Ev.neg (by omega) (Ev.neg (by simp) (Ev.pos (by omega) (Ev.some_ ?_)))
    rw [List.drop_of_length_le (by omega)]; rfl
  | d + 1, i, out, h, hl => by
    have hi : i < E.length := by omega
    refine Ev.succ ?_
    simp only [spec_NetAdd.l0, rd_T_nat E i hi]
    refine Ev.pos (by omega) (Ev.neg (by simp) (Ev.pos (by omega) (Ev.bind0 (l1Less t E[i]) ?_)))
    rw [w64 (by omega), List.drop_eq_getElem_cons hi]
    unfold insT
    by_cases hlt : lt t E[i]
    · rw [if_pos hlt]
      refine Ev.pos (decide_eq_true hlt) (Ev.pos (by omega) (Ev.bind0 rfl (Ev.pos (by simp only [List.length_append, List.length_singleton]; omega) ?_)))
      refine Ev.cast (ev_NetAdd_done (n := n) t hE d (i + 1) (out ++ [t] ++ [E[i]]) (by omega) (by simp only [List.length_append, List.length_singleton]; omega)) ?_
      simp
    · rw [if_neg hlt]
      refine Ev.neg (by simp [hlt]) (Ev.pos (by omega) ?_)
      refine Ev.cast (ev_NetAdd_loop (n := n) t hE d (i + 1) (out ++ [E[i]]) (by omega) (by simp only [List.length_append, List.length_singleton]; omega)) ?_
      simp
/-- A tie may be added. -/
def MayAdd (n : Int) (E : List T) (a b : Int) : Prop := OK n E ∧ In n a ∧ In n b ∧ a ≠ b ∧ ¬ Has E a b
theorem ev_spec_NetAdd {n : Int} {E : List T} {a b : Int} (h : MayAdd n E a b) : Ev (fun k => spec_NetAdd.f k n E a b) (n, insT (tie a b) E, true) := by
  have hl := h.1.length
  simp only [spec_NetAdd.f]
  refine Ev.bind (ev_l1Knot n E a (by omega) h.1.wf) (Ev.pos (dec_t ⟨h.1, h.2.1⟩) (Ev.bind (ev_l1Knot n E b (by omega) h.1.wf) (Ev.pos (dec_t ⟨h.1, h.2.2.1⟩) (Ev.neg h.2.2.2.1 (Ev.bind (ev_spec_NetHas n E a b (by omega) h.1.wf) ?_)))))
  rw [dec_f (fun k => h.2.2.2.2 k.2)]
  refine Ev.succ ?_
  simp only [spec_NetAdd.j0]
  refine Ev.neg (by simp) (Ev.bind0 (l1Tie a b) ?_)
  exact ev_NetAdd_loop (tie a b) (by omega) E.length 0 [] (by omega) (by simp)
theorem ev_spec_NetAdd_not {n : Int} {E : List T} {a b : Int} (hE : E.length ≤ 1048576) (hw : WF E) (h : ¬ MayAdd n E a b) : Ev (fun k => spec_NetAdd.f k n E a b) (0, [], false) := by
  have no : Ev (fun k => spec_NetAdd.j0 k a b true n E) (0, [], false) := by
    refine Ev.succ ?_
    simp only [spec_NetAdd.j0]
    exact Ev.pos trivial (Ev.now _)
  simp only [spec_NetAdd.f]
  refine Ev.bind (ev_l1Knot n E a hE hw) ?_
  by_cases ha : OK n E ∧ In n a
  · refine Ev.pos (dec_t ha) (Ev.bind (ev_l1Knot n E b hE hw) ?_)
    by_cases hb : OK n E ∧ In n b
    · refine Ev.pos (dec_t hb) ?_
      by_cases e : a = b
      · exact Ev.pos e no
      · refine Ev.neg e (Ev.bind (ev_spec_NetHas n E a b hE hw) ?_)
        by_cases hh : Has E a b
        · rw [dec_t ⟨ha.1, hh⟩]; exact no
        · exact absurd ⟨ha.1, ha.2, hb.2, e, hh⟩ h
    · exact Ev.neg (by rw [dec_f hb]; simp) no
  · exact Ev.neg (by rw [dec_f ha]; simp) no
theorem ev_spec_NetAdd_any {n : Int} {E : List T} (h : OK n E) (a b : Int) : ∃ n' E' ok, Ev (fun k => spec_NetAdd.f k n E a b) (n', E', ok) ∧ OK n' E' := by
  have hl := h.length
  by_cases hm : MayAdd n E a b
  · exact ⟨_, _, _, ev_spec_NetAdd hm, h.ins hm.2.1 hm.2.2.1 hm.2.2.2.1 hm.2.2.2.2⟩
  · exact ⟨_, _, _, ev_spec_NetAdd_not (by omega) h.wf hm, OK.nil (by omega) (by omega)⟩
theorem ev_l71Net_l2 {s : List Int} (h : Bytes s) : ∀ (d : Nat) (i p n : Int) (E : List T), i ≤ d → d ≤ 20 → 0 ≤ p → p + 2 * d ≤ 101000 → OK n E → ∃ n' E' p', Ev (fun k => spec_l71Net.l2 k i s p n E) (n', E', p') ∧ OK n' E' ∧ 0 ≤ p' ∧ p' ≤ p + 2 * d
  | d, i, p, n, E, hi, hd, hp, hq, ho => by
    have stop : ∃ n' E' p', Ev (fun k => spec_l71Net.j4 k i false s p n E) (n', E', p') ∧ OK n' E' ∧ 0 ≤ p' ∧ p' ≤ p + 2 * d := by
      refine ⟨n, E, p, Ev.succ ?_, ho, hp, by omega⟩
      simp only [spec_l71Net.j4]
      exact Ev.neg (by simp) (Ev.now _)
    by_cases h1 : i > 0
    · by_cases h2 : n > 1
      · cases d with
        | zero => omega
        | succ d =>
          have h8 := ho.n8
          obtain ⟨a, ha, _⟩ := ev_pick h (p := p) (by omega) n (by omega)
          obtain ⟨b, hb, _⟩ := ev_pick h (p := p + 1) (by omega) n (by omega)
          obtain ⟨n1, E1, ok, hadd, hok⟩ := ev_spec_NetAdd_any ho a b
          by_cases hk : ok = true
          · obtain ⟨n2, E2, p2, hev, ho2, hp2, hq2⟩ := ev_l71Net_l2 h d (i - 1) (p + 1 + 1) n1 E1 (by omega) (by omega) (by omega) (by omega) hok
            refine ⟨n2, E2, p2, Ev.succ ?_, ho2, hp2, by omega⟩
            simp only [spec_l71Net.l2]
            refine Ev.pos h1 (Ev.succ ?_)
            simp only [spec_l71Net.j4]
            refine Ev.pos (decide_eq_true h2) (Ev.bind ha (Ev.bind hb (Ev.bind hadd (Ev.pos hk ?_))))
            rw [w64 (by omega)]
            exact hev
          · obtain ⟨n2, E2, p2, hev, ho2, hp2, hq2⟩ := ev_l71Net_l2 h d (i - 1) (p + 1 + 1) n E (by omega) (by omega) (by omega) (by omega) ho
            refine ⟨n2, E2, p2, Ev.succ ?_, ho2, hp2, by omega⟩
            simp only [spec_l71Net.l2]
            refine Ev.pos h1 (Ev.succ ?_)
            simp only [spec_l71Net.j4]
            refine Ev.pos (decide_eq_true h2) (Ev.bind ha (Ev.bind hb (Ev.bind hadd (Ev.neg hk ?_))))
            rw [w64 (by omega)]
            exact hev
      · obtain ⟨n2, E2, p2, hev, r⟩ := stop
        refine ⟨n2, E2, p2, Ev.succ ?_, r⟩
        simp only [spec_l71Net.l2]
        refine Ev.pos h1 ?_
        rw [decide_eq_false h2]
        exact hev
    · obtain ⟨n2, E2, p2, hev, r⟩ := stop
      refine ⟨n2, E2, p2, Ev.succ ?_, r⟩
      simp only [spec_l71Net.l2]
      exact Ev.neg h1 hev
theorem ev_l71Net_j2 {s : List Int} (h : Bytes s) (p n : Int) (E : List T) (hp : 0 ≤ p) (hq : p ≤ 100900) (ho : OK n E) : ∃ n' E' p', Ev (fun k => spec_l71Net.j2 k s p n E) (n', E', p') ∧ OK n' E' ∧ 0 ≤ p' ∧ p' ≤ p + 30 := by
  obtain ⟨a, ha, ha', _⟩ := ev_pick h (p := p) (by omega) 13 (by omega)
  have := ha' (by omega)
  obtain ⟨n2, E2, p2, hev, ho2, hp2, hq2⟩ := ev_l71Net_l2 h 13 a (p + 1) n E (by omega) (by omega) (by omega) (by omega) ho
  refine ⟨n2, E2, p2, Ev.succ ?_, ho2, hp2, by omega⟩
  simp only [spec_l71Net.j2]
  exact Ev.bind ha hev
theorem ev_l71Net_l0 {s : List Int} (h : Bytes s) : ∀ (d : Nat) (i p n : Int) (E : List T), i + d = 8 → 0 ≤ i → 0 ≤ p → p + d ≤ 100900 → OK n E → ∃ n' E' p', Ev (fun k => spec_l71Net.l0 k i s p n E) (n', E', p') ∧ OK n' E' ∧ 0 ≤ p' ∧ p' ≤ p + d + 30
  | d, i, p, n, E, hi, h0, hp, hq, ho => by
    by_cases h1 : i < n
    · cases d with
      | zero => have := ho.n8; omega
      | succ d =>
        obtain ⟨a, ha, _⟩ := ev_pick h (p := p) (by omega) i (by omega)
        obtain ⟨n1, E1, ok, hadd, hok⟩ := ev_spec_NetAdd_any ho i a
        obtain ⟨n2, E2, p2, hev, ho2, hp2, hq2⟩ := ev_l71Net_l0 h d (i + 1) (p + 1) n1 E1 (by omega) (by omega) (by omega) (by omega) hok
        refine ⟨n2, E2, p2, Ev.succ ?_, ho2, hp2, by omega⟩
        simp only [spec_l71Net.l0]
        refine Ev.pos h1 (Ev.bind ha (Ev.bind hadd ?_))
        rw [w64 (by omega)]
        exact hev
    · obtain ⟨n2, E2, p2, hev, ho2, hp2, hq2⟩ := ev_l71Net_j2 h p n E hp (by omega) ho
      refine ⟨n2, E2, p2, Ev.succ ?_, ho2, hp2, by omega⟩
      simp only [spec_l71Net.l0]
      exact Ev.neg h1 hev
theorem ev_l71Net_l1 {s : List Int} (h : Bytes s) (p : Int) (hp : 0 ≤ p) (hq : p ≤ 100900) : ∀ (d : Nat) (i n : Int) (E : List T), i + d = 8 → 0 ≤ i → OK n E → ∃ n' E' p', Ev (fun k => spec_l71Net.l1 k i s p n E) (n', E', p') ∧ OK n' E' ∧ 0 ≤ p' ∧ p' ≤ p + 30
  | d, i, n, E, hi, h0, ho => by
    obtain ⟨n2, E2, p2, hev, r⟩ := ev_l71Net_j2 h p n E hp (by omega) ho
    by_cases h1 : i < n
    · by_cases h2 : n > 2
      · cases d with
        | zero => have := ho.n8; omega
        | succ d =>
          obtain ⟨n1, E1, ok, hadd, hok⟩ := ev_spec_NetAdd_any ho i (Int.tmod (i + 1) n)
          obtain ⟨n2, E2, p2, hev, r⟩ := ev_l71Net_l1 h p hp hq d (i + 1) n1 E1 (by omega) (by omega) hok
          refine ⟨n2, E2, p2, Ev.succ ?_, r⟩
          simp only [spec_l71Net.l1]
          rw [w64 (x := i + 1) (by omega)]
          exact Ev.pos h1 (Ev.pos h2 (Ev.neg (by omega) (Ev.bind hadd hev)))
      · refine ⟨n2, E2, p2, Ev.succ ?_, r⟩
        simp only [spec_l71Net.l1]
        exact Ev.pos h1 (Ev.neg h2 hev)
    · refine ⟨n2, E2, p2, Ev.succ ?_, r⟩
      simp only [spec_l71Net.l1]
      exact Ev.neg h1 hev
theorem ev_l71Net {s : List Int} (h : Bytes s) (p : Int) (hp : 0 ≤ p) (hq : p ≤ 100800) : ∃ n E p', Ev (fun k => spec_l71Net.f k s p) (n, E, p') ∧ OK n E ∧ 0 ≤ p' ∧ p' ≤ p + 50 := by
  obtain ⟨a, ha, ha', _⟩ := ev_pick h (p := p) (by omega) 8 (by omega)
  have := ha' (by omega)
  obtain ⟨b, hb, hb', _⟩ := ev_pick h (p := p + 1) (by omega) 6 (by omega)
  have hn : OK (1 + a) ([] : List T) := OK.nil (by omega) (by omega)
  simp only [spec_l71Net.f]
  by_cases h0 : b = 0
  · obtain ⟨n2, E2, p2, hev, ho2, hp2, hq2⟩ := ev_l71Net_l0 h 7 1 (p + 1 + 1) (1 + a) [] (by omega) (by omega) (by omega) (by omega) hn
    refine ⟨n2, E2, p2, Ev.bind ha (Ev.bind hb (Ev.pos h0 ?_)), ho2, hp2, by omega⟩
    rw [w64 (by omega)]
    exact hev
  · by_cases h1 : b = 1
    · obtain ⟨n2, E2, p2, hev, ho2, hp2, hq2⟩ := ev_l71Net_l1 h (p + 1 + 1) (by omega) (by omega) 8 0 (1 + a) [] (by omega) (by omega) hn
      refine ⟨n2, E2, p2, Ev.bind ha (Ev.bind hb (Ev.neg h0 (Ev.pos h1 ?_))), ho2, hp2, by omega⟩
      rw [w64 (by omega)]
      exact hev
    · obtain ⟨n2, E2, p2, hev, ho2, hp2, hq2⟩ := ev_l71Net_j2 h (p + 1 + 1) (1 + a) [] (by omega) (by omega) hn
      refine ⟨n2, E2, p2, Ev.bind ha (Ev.bind hb (Ev.neg h0 (Ev.neg h1 ?_))), ho2, hp2, by omega⟩
      rw [w64 (by omega)]
      exact hev
/-- A small net, valid or not. -/
structure Small (n : Int) (E : List T) : Prop where
  n : -1 ≤ n ∧ n ≤ 9
  len : E.length ≤ 70
  tie : ∀ t ∈ E, (-9 ≤ t.f0 ∧ t.f0 ≤ 9) ∧ (-9 ≤ t.f1 ∧ t.f1 ≤ 9)
theorem Small.wf {n : Int} {E : List T} (h : Small n E) : WF E := fun t ht => by have := h.tie t ht; omega
theorem Small.le {n : Int} {E : List T} (h : Small n E) : E.length ≤ 1048576 := by have := h.len; omega
theorem OK.small {n : Int} {E : List T} (h : OK n E) : Small n E := by
  refine ⟨?_, by have := h.length; omega, fun t ht => ?_⟩
  · have := h.n0; have := h.n8; omega
  · have := h.tie t ht; have := h.n8; omega
theorem ev_l71Spoil {s : List Int} (h : Bytes s) (p : Int) (hp : 0 ≤ p) (hq : p ≤ 100800) {n : Int} {E : List T} (ho : OK n E) : ∃ n' E' p', Ev (fun k => spec_l71Spoil.f k s p n E) (n', E', p') ∧ Small n' E' ∧ 0 ≤ p' ∧ p' ≤ p + 3 := by
  have hl := ho.length
  have h8 := ho.n8
  have h0 := ho.n0
  have sm := ho.small
  have add : ∀ t : T, ((-9 ≤ t.f0 ∧ t.f0 ≤ 9) ∧ (-9 ≤ t.f1 ∧ t.f1 ≤ 9)) → Small n (E ++ [t]) := fun t ht => ⟨sm.n, by simp only [List.length_append, List.length_singleton]; omega, fun u hu => by
    rcases List.mem_append.1 hu with m | m
    · exact sm.tie u m
    · rw [List.mem_singleton] at m; subst m; exact ht⟩
  obtain ⟨a, ha, ha', _⟩ := ev_pick h (p := p) (by omega) 6 (by omega)
  have := ha' (by omega)
  simp only [spec_l71Spoil.f]
  by_cases e0 : a = 0
  · obtain ⟨b, hb, hb', _⟩ := ev_pick h (p := p + 1) (by omega) 5 (by omega)
    have := hb' (by omega)
    have hv : -1 ≤ rd [(-1 : Int), 0, 1, 8, 9] b ∧ rd [(-1 : Int), 0, 1, 8, 9] b ≤ 9 := by
      obtain rfl | rfl | rfl | rfl | rfl : b = 0 ∨ b = 1 ∨ b = 2 ∨ b = 3 ∨ b = 4 := by omega
      all_goals decide
    refine ⟨_, _, _, Ev.bind0 (l1Copy n E (by omega)) (Ev.bind ha (Ev.pos e0 (Ev.bind0 rfl (Ev.bind hb (Ev.pos (by omega) (Ev.pos (by simp; omega) (Ev.now _))))))), ⟨hv, sm.len, sm.tie⟩, by omega, by omega⟩
  · by_cases e1 : a = 1
    · obtain ⟨b, hb, hb', _⟩ := ev_pick h (p := p + 1) (by omega) 3 (by omega)
      obtain ⟨c, hc, hc', _⟩ := ev_pick h (p := p + 1 + 1) (by omega) 3 (by omega)
      have := hb' (by omega)
      have := hc' (by omega)
      exact ⟨_, _, _, Ev.bind0 (l1Copy n E (by omega)) (Ev.bind ha (Ev.neg e0 (Ev.pos e1 (Ev.bind hb (Ev.bind hc (Ev.pos (by dsimp only; omega) (Ev.now _))))))), add ⟨b, c⟩ (by dsimp only; omega), by omega, by omega⟩
    · by_cases e2 : a = 2
      · refine ⟨_, _, _, Ev.bind0 (l1Copy n E (by omega)) (Ev.bind ha (Ev.neg e0 (Ev.neg e1 (Ev.pos e2 (Ev.pos (by dsimp only; omega) (Ev.now _)))))), add ⟨wrap64 (n - 1), n⟩ ?_, by omega, by omega⟩
        rw [w64 (by omega)]
        dsimp only; omega
      · by_cases e3 : a = 3
        · by_cases hE : (E.length : Int) > 0
          · obtain ⟨b, hb, hb', _⟩ := ev_pick h (p := p + 1) (by omega) (E.length : Int) (by omega)
            have hbb := hb' (by omega)
            refine ⟨_, _, _, Ev.bind0 (l1Copy n E (by omega)) (Ev.bind ha (Ev.neg e0 (Ev.neg e1 (Ev.neg e2 (Ev.pos e3 (Ev.pos hE (Ev.bind hb (Ev.pos hbb.1 (Ev.pos hbb.2 (Ev.now _)))))))))), ⟨sm.n, by rw [List.length_set]; exact sm.len, fun u hu => ?_⟩, by omega, by omega⟩
            rcases List.mem_or_eq_of_mem_set hu with m | rfl
            · exact sm.tie u m
            · have hbn : b.toNat < E.length := by omega
              have e : (rd_T35 E b) = E[b.toNat] := by
                have := rd_T_nat E b.toNat hbn
                rw [show ((b.toNat : Nat) : Int) = b by omega] at this
                exact this
              have := sm.tie _ (List.getElem_mem hbn)
              dsimp only
              rw [e]
              omega
          · exact ⟨_, _, _, Ev.bind0 (l1Copy n E (by omega)) (Ev.bind ha (Ev.neg e0 (Ev.neg e1 (Ev.neg e2 (Ev.pos e3 (Ev.neg hE (Ev.now _))))))), sm, by omega, by omega⟩
        · by_cases e4 : a = 4
          · by_cases hE : (E.length : Int) > 1
            · refine ⟨_, _, _, Ev.bind0 (l1Copy n E (by omega)) (Ev.bind ha (Ev.neg e0 (Ev.neg e1 (Ev.neg e2 (Ev.neg e3 (Ev.pos e4 (Ev.pos hE (Ev.pos (by dsimp only; omega) (Ev.pos (by dsimp only; omega) (Ev.now _)))))))))), add _ ?_, by omega, by omega⟩
              have e : rd_T35 E 0 = E[0] := rd_T_nat E 0 (by omega)
              rw [e]
              have := sm.tie _ (List.getElem_mem (show 0 < E.length by omega))
              dsimp only; omega
            · exact ⟨_, _, _, Ev.bind0 (l1Copy n E (by omega)) (Ev.bind ha (Ev.neg e0 (Ev.neg e1 (Ev.neg e2 (Ev.neg e3 (Ev.pos e4 (Ev.neg hE (Ev.now _)))))))), sm, by omega, by omega⟩
          · refine ⟨_, _, _, Ev.bind0 (l1Copy n E (by omega)) (Ev.bind ha (Ev.neg e0 (Ev.neg e1 (Ev.neg e2 (Ev.neg e3 (Ev.neg e4 (Ev.bind0 rfl (Ev.pos (by simp only [List.length_singleton]; omega) (Ev.now _))))))))), ⟨sm.n, by simp only [List.singleton_append, List.length_cons]; omega, fun u hu => ?_⟩, by omega, by omega⟩
            rcases List.mem_append.1 hu with m | m
            · rw [List.mem_singleton] at m; subst m; dsimp only; omega
            · exact sm.tie u m
theorem ev_l71Any {s : List Int} (h : Bytes s) (p : Int) (hp : 0 ≤ p) (hq : p ≤ 100700) : ∃ n E p', Ev (fun k => spec_l71Any.f k s p) (n, E, p') ∧ Small n E ∧ 0 ≤ p' ∧ p' ≤ p + 60 := by
  obtain ⟨n, E, p1, hev, ho, hp1, hq1⟩ := ev_l71Net h p hp (by omega)
  obtain ⟨a, ha, _⟩ := ev_pick h (p := p1) (by omega) 12 (by omega)
  simp only [spec_l71Any.f]
  by_cases e : a = 0
  · obtain ⟨n2, E2, p2, h2, hs, hp2, hq2⟩ := ev_l71Spoil h (p1 + 1) (by omega) (by omega) ho
    exact ⟨_, _, _, Ev.bind hev (Ev.bind ha (Ev.pos e (Ev.bind h2 (Ev.now _)))), hs, hp2, by dsimp only; omega⟩
  · exact ⟨_, _, _, Ev.bind hev (Ev.bind ha (Ev.neg e (Ev.now _))), ho.small, by omega, by omega⟩
theorem ev_l71Knot {s : List Int} (h : Bytes s) (p : Int) (hp : 0 ≤ p) (hq : p ≤ 100900) {n : Int} {E : List T} (hs : Small n E) : ∃ v p', Ev (fun k => spec_l71Knot.f k s p n E) (v, p') ∧ (-9 ≤ v ∧ v ≤ 9) ∧ 0 ≤ p' ∧ p' ≤ p + 2 := by
  have hn := hs.n
  have odd : ∀ p, 0 ≤ p → p ≤ 100950 → ∃ v, Ev (fun k => spec_l71Knot.j0 k true s p n E) (v, p + 1) ∧ (-9 ≤ v ∧ v ≤ 9) := fun p hp hq => by
    obtain ⟨b, hb, hb', _⟩ := ev_pick h (p := p) (by omega) 3 (by omega)
    have := hb' (by omega)
    have hv : -9 ≤ rd [(-1 : Int), n, 3] b ∧ rd [(-1 : Int), n, 3] b ≤ 9 := by
      obtain rfl | rfl | rfl : b = 0 ∨ b = 1 ∨ b = 2 := by omega
      · show (-9 : Int) ≤ -1 ∧ (-1 : Int) ≤ 9; omega
      · show -9 ≤ n ∧ n ≤ 9; omega
      · show (-9 : Int) ≤ 3 ∧ (3 : Int) ≤ 9; omega
    refine ⟨_, Ev.succ ?_, hv⟩
    simp only [spec_l71Knot.j0]
    exact Ev.pos trivial (Ev.bind0 rfl (Ev.bind hb (Ev.pos (by omega) (Ev.pos (by simp; omega) (Ev.now _)))))
  simp only [spec_l71Knot.f]
  by_cases h1 : n < 1
  · obtain ⟨v, hv, r⟩ := odd p hp (by omega)
    exact ⟨v, p + 1, Ev.pos h1 hv, r, by omega, by omega⟩
  · obtain ⟨a, ha, _⟩ := ev_pick h (p := p) (by omega) 24 (by omega)
    by_cases e : a = 0
    · obtain ⟨v, hv, r⟩ := odd (p + 1) (by omega) (by omega)
      refine ⟨v, p + 1 + 1, Ev.neg h1 (Ev.bind ha ?_), r, by omega, by omega⟩
      subst e
      exact hv
    · obtain ⟨b, hb, hb', _⟩ := ev_pick h (p := p + 1) (by omega) n (by omega)
      have := hb' (by omega)
      refine ⟨b, p + 1 + 1, Ev.neg h1 (Ev.bind ha ?_), by omega, by omega, by omega⟩
      dsimp only
      rw [beq_eq_false_iff_ne.2 e]
      refine Ev.succ ?_
      simp only [spec_l71Knot.j0]
      exact Ev.neg (by simp) (Ev.bind hb (Ev.now _))
theorem ev_l71Pair {s : List Int} (h : Bytes s) (p : Int) (hp : 0 ≤ p) (hq : p ≤ 100700) : ∃ n E a b p', Ev (fun k => spec_l71Pair.f k s p) (n, E, a, b, p') ∧ Small n E ∧ (-9 ≤ a ∧ a ≤ 9) ∧ (-9 ≤ b ∧ b ≤ 9) ∧ 0 ≤ p' ∧ p' ≤ p + 70 := by
  obtain ⟨n, E, p1, hev, hs, hp1, hq1⟩ := ev_l71Any h p hp (by omega)
  obtain ⟨a, p2, ha, har, hp2, hq2⟩ := ev_l71Knot h p1 hp1 (by omega) hs
  obtain ⟨b, p3, hb, hbr, hp3, hq3⟩ := ev_l71Knot h p2 hp2 (by omega) hs
  have hn := hs.n
  simp only [spec_l71Pair.f]
  by_cases e : a = b
  · by_cases h1 : n > 1
    · obtain ⟨c, hc, _⟩ := ev_pick h (p := p3) (by omega) 8 (by omega)
      by_cases h2 : c > 0
      · refine ⟨n, E, a, _, p3 + 1, Ev.bind hev (Ev.bind ha (Ev.bind hb (Ev.pos e (Ev.pos h1 (Ev.bind hc (Ev.pos h2 (Ev.neg (by dsimp only; omega) (Ev.now _)))))))), hs, har, ?_, by omega, by omega⟩
        rw [w64 (by omega)]
        have := Int.tmod_lt_of_pos (a + 1) (show 0 < n by omega)
        have := Int.lt_tmod_of_pos (a + 1) (show 0 < n by omega)
        dsimp only; omega
      · exact ⟨n, E, a, b, p3 + 1, Ev.bind hev (Ev.bind ha (Ev.bind hb (Ev.pos e (Ev.pos h1 (Ev.bind hc (Ev.neg h2 (Ev.now _))))))), hs, har, hbr, by omega, by omega⟩
    · exact ⟨n, E, a, b, p3, Ev.bind hev (Ev.bind ha (Ev.bind hb (Ev.pos e (Ev.neg h1 (Ev.now _))))), hs, har, hbr, by omega, by omega⟩
  · exact ⟨n, E, a, b, p3, Ev.bind hev (Ev.bind ha (Ev.bind hb (Ev.neg e (Ev.now _)))), hs, har, hbr, by omega, by omega⟩
theorem ev_DrawFlowCount (l : List Int) (hl : l.length ≤ maxLen ∧ ∀ x ∈ l, (Lit.int .u8 x).wf = true) : ∃ n E a b, Ev (fun k => spec_DrawFlowCount.f k l) (n, E, a, b) ∧ Small n E := by
  obtain ⟨s, ho, hs⟩ := l6Open l hl
  obtain ⟨n, E, a, b, p, hd, hn, _⟩ := ev_l71Pair hs 0 (by omega) (by omega)
  refine ⟨n, E, a, b, ?_, hn⟩
  simp only [spec_DrawFlowCount.f]
  exact Ev.bind0 ho (Ev.bind hd (Ev.now _))
end Go.Proofs.Ytiamiahkjdipkaa.Th
namespace Go.Proofs.Ytiamiahkjdipkaa.Pure
open Go.RowKit Go.Proofs.YtiamiahkjdipkaaW.PrintWords Go.Proofs.YtiamiahkjdipkaaW.PrintLast Go.Proofs.YtiamiahkjdipkaaW.PrintMore Go.Proofs.Ytiamiahkjdipkaa.F Go.Proofs.Ytiamiahkjdipkaa.Th Classical
/-- How many of some ties have a knot. -/
noncomputable def degT (L : List T) (v : Int) : Int := ((L.filter (fun t => dec (t.f0 = v ∨ t.f1 = v))).length : Int)
theorem degT_cons_t {t : T} {v : Int} (L : List T) (h : t.f0 = v ∨ t.f1 = v) : degT (t :: L) v = degT L v + 1 := by
  unfold degT
  rw [List.filter_cons_of_pos (p := fun t : T => dec (t.f0 = v ∨ t.f1 = v)) (dec_t h), List.length_cons]
  omega
theorem degT_cons_f {t : T} {v : Int} (L : List T) (h : ¬ (t.f0 = v ∨ t.f1 = v)) : degT (t :: L) v = degT L v := by
  unfold degT
  rw [List.filter_cons_of_neg (p := fun t : T => dec (t.f0 = v ∨ t.f1 = v)) (by rw [dec_f h]; simp)]
theorem cross_deg {n : Int} (v : Int) : ∀ (E : List T), OK n E → cross n E (fun x => dec (x = v)) = degT E v
  | [], _ => by
    unfold cross
    rw [cs_zero (fun u w _ _ _ _ => by unfold cap; simp)]
    rfl
  | t :: L, h => by
    have hL : OK n L := ⟨h.n0, h.n8, fun s hs => h.tie s (List.mem_cons_of_mem _ hs), (List.pairwise_cons.1 h.asc).2⟩
    have hn := h.nodup
    rw [List.nodup_cons] at hn
    have e : less (t :: L) (· = t) = L := by
      rw [less_cons_pos (p := fun x => x = t) rfl]
      exact less_none (fun s hs e => hn.1 (e ▸ hs))
    have k := cross_less h (t := t) (by simp) (fun x => dec (x = v))
    rw [e, cross_deg v L hL] at k
    have ht := h.tie t (by simp)
    by_cases h0 : t.f0 = v
    · have h1 : ¬ t.f1 = v := by omega
      rw [degT_cons_t L (Or.inl h0)]
      rw [if_neg (by rw [dec_t h0, dec_f h1]; simp)] at k
      omega
    · by_cases h1 : t.f1 = v
      · rw [degT_cons_t L (Or.inr h1)]
        rw [if_neg (by rw [dec_f h0, dec_t h1]; simp)] at k
        omega
      · rw [degT_cons_f L (by rintro (k | k); exact h0 k; exact h1 k)]
        rw [if_pos (by rw [dec_f h0, dec_f h1])] at k
        omega
theorem flow_le_deg {n : Int} {E : List T} {a b : Int} (h : OK n E) (hab : a ≠ b) : flow n E a b ≤ degT E a ∧ flow n E a b ≤ degT E b := by
  constructor
  · have := (flow_is n E hab).least (fun x => dec (x = a)) (dec_t rfl) (dec_f (fun e => hab e.symm))
    rwa [cross_deg a E h] at this
  · have := (flow_is n E (fun e => hab e.symm)).least (fun x => dec (x = b)) (dec_t rfl) (dec_f hab)
    rw [cross_deg b E h, ← flow_comm n E hab] at this
    exact this
theorem twoW_flow {n : Int} {E : List T} {a b : Int} (h : OK n E) (ha : In n a) (hab : a ≠ b) (k : TwoW E a b) : 2 ≤ flow n E a b :=
  (two_iff h ha hab).2 ⟨k.conn, fun t _ => k.less h hab t⟩
theorem ev_few_loop {n : Int} {E : List T} {a b f : Int} (h : OK n E) (ha : In n a) (hb : In n b) (hab : a ≠ b) (hf : f = flow n E a b) : ∀ (d i : Nat) (x y : Int), i + d = E.length → x = degT (E.take i) a → y = degT (E.take i) b →
    Ev (fun k => laws_FnFlowFew.l0 k a b f x y i n E) true
  | 0, i, x, y, hd, hx, hy => by
    have hE := h.length
    have e : E.take i = E := List.take_of_length_le (by omega)
    rw [e] at hx hy
    have hd := flow_le_deg h hab
    refine Ev.succ ?_
    simp only [laws_FnFlowFew.l0]
    refine Ev.neg (by omega) (Ev.bind (ev_impl_TwoFind n E a b (by omega)) (Ev.pos (by unfold mn; split <;> omega) ?_))
    rw [twoFind_ok h ha hb hab]
    by_cases k : TwoW E a b
    · refine Ev.pos (dec_t k) (Ev.some_ (decide_eq_true ?_))
      have := twoW_flow h ha hab k
      omega
    · exact Ev.neg (by rw [dec_f k]; simp) (Ev.now _)
  | d + 1, i, x, y, hd, hx, hy => by
    have hE := h.length
    have hi : i < E.length := by omega
    have et : E.take (i + 1) = E.take i ++ [E[i]] := (List.take_append_getElem hi).symm
    have hdeg : ∀ (L : List T) (t : T) (v : Int), degT (L ++ [t]) v = degT L v + (if t.f0 = v ∨ t.f1 = v then 1 else 0) := fun L t v => by
      unfold degT
      rw [List.filter_append, List.length_append]
      by_cases k : t.f0 = v ∨ t.f1 = v
      · rw [if_pos k, List.filter_cons_of_pos (p := fun t : T => dec (t.f0 = v ∨ t.f1 = v)) (dec_t k)]; simp
      · rw [if_neg k, List.filter_cons_of_neg (p := fun t : T => dec (t.f0 = v ∨ t.f1 = v)) (by rw [dec_f k]; simp)]; simp
    have hb0 : ∀ (v : Int), 0 ≤ degT (E.take i) v ∧ degT (E.take i) v ≤ 64 := fun v => by
      unfold degT
      have := List.length_filter_le (fun t : T => dec (t.f0 = v ∨ t.f1 = v)) (E.take i)
      rw [List.length_take] at this
      omega
    have hba := hb0 a
    have hbb := hb0 b
    have hj : ∀ (x y : Int), x = degT (E.take (i + 1)) a → y = degT (E.take (i + 1)) b → Ev (fun k => laws_FnFlowFew.l0 k a b f x y ((i : Int) + 1) n E) true := fun x y hx hy => by
      have := ev_few_loop h ha hb hab hf d (i + 1) x y (by omega) hx hy
      exact_mod_cast this
    have hda := hdeg (E.take i) E[i] a
    have hdb := hdeg (E.take i) E[i] b
    rw [← et] at hda hdb
    have fin : ∀ (q : Bool), (q = true ↔ (E[i].f0 = a ∨ E[i].f1 = a)) → Ev (fun k => laws_FnFlowFew.j2 k a b f x y i q n E) true := fun q hq => by
      refine Ev.succ ?_
      simp only [laws_FnFlowFew.j2]
      rw [rd_T_nat E i hi, w64 (x := (i : Int) + 1) (by omega), w64 (x := x + 1) (by omega), w64 (x := y + 1) (by omega)]
      by_cases ka : E[i].f0 = a ∨ E[i].f1 = a
      · rw [if_pos ka] at hda
        refine Ev.pos (hq.2 ka) (Ev.pos (by omega) (Ev.pos (by omega) ?_))
        by_cases k0 : E[i].f0 = b
        · rw [if_pos (Or.inl k0)] at hdb
          exact Ev.pos k0 (hj _ _ (by omega) (by omega))
        · refine Ev.neg k0 ?_
          by_cases k1 : E[i].f1 = b
          · rw [if_pos (Or.inr k1)] at hdb
            exact Ev.pos k1 (hj _ _ (by omega) (by omega))
          · rw [if_neg (by rintro (k | k); exact k0 k; exact k1 k)] at hdb
            exact Ev.neg k1 (hj _ _ (by omega) (by omega))
      · rw [if_neg ka] at hda
        refine Ev.neg (fun k => ka (hq.1 k)) (Ev.pos (by omega) (Ev.pos (by omega) ?_))
        by_cases k0 : E[i].f0 = b
        · rw [if_pos (Or.inl k0)] at hdb
          exact Ev.pos k0 (hj _ _ (by omega) (by omega))
        · refine Ev.neg k0 ?_
          by_cases k1 : E[i].f1 = b
          · rw [if_pos (Or.inr k1)] at hdb
            exact Ev.pos k1 (hj _ _ (by omega) (by omega))
          · rw [if_neg (by rintro (k | k); exact k0 k; exact k1 k)] at hdb
            exact Ev.neg k1 (hj _ _ (by omega) (by omega))
    refine Ev.succ ?_
    simp only [laws_FnFlowFew.l0]
    rw [rd_T_nat E i hi]
    refine Ev.pos (by omega) (Ev.pos (by omega) ?_)
    by_cases k0 : E[i].f0 = a
    · exact Ev.pos k0 (fin true (by simp [k0]))
    · refine Ev.neg k0 (fin _ ?_)
      rw [beq_iff_eq]
      exact ⟨Or.inr, fun k => k.elim (fun k => absurd k k0) id⟩
theorem FnFlowFew : laws_FnFlowFew.Pure := by
  intro l hl
  refine Ev.rounds (g := fun k => laws_FnFlowFew.f k l) ?_
  simp only [laws_FnFlowFew.f]
  by_cases h1 : (l.length : Int) > 1048576
  · exact Ev.pos h1 (Ev.now _)
  · obtain ⟨n, E, a, b, hd, hn⟩ := ev_DrawFlowCount l hl
    refine Ev.neg h1 (Ev.bind hd (Ev.bind (ev_impl_FlowCount n E a b hn.le) (Ev.bind (ev_spec_FlowCount n E a b hn.le hn.wf) (Ev.pos rfl (Ev.succ ?_)))))
    simp only [laws_FnFlowFew.j0]
    by_cases h : Two2 n E a b
    · rw [flowCount_t h]
      have h0 := flow_nonneg n E h.2.2.2
      refine Ev.neg (by simp; omega) ?_
      have := ev_few_loop h.1 h.2.1 h.2.2.1 h.2.2.2 rfl E.length 0 0 0 (by omega) (by simp [degT]) (by simp [degT])
      exact_mod_cast this
    · rw [flowCount_f h]
      refine Ev.pos (by simp) (Ev.bind (ev_spec_FlowCount n E a b hn.le hn.wf) ?_)
      rw [flowCount_f h]
      exact Ev.some_ rfl
end Go.Proofs.Ytiamiahkjdipkaa.Pure
