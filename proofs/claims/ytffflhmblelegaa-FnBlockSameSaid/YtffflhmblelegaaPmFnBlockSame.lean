/-
P40: two ties are in one block just if they are the same, or in one ring.
-/
import Derived.Test.YtffflhmblelegaaWs
import Derived.WalkKit
import Derived.ProofKit
import Derived.Deep.Slices
import Derived.ChangeSame
import Derived.Test.YtffflhmblelegaaF0
import Derived.Test.YtffflhmblelegaaF3
import Derived.Test.YtffflhmblelegaaF4
import Derived.Test.YtffflhmblelegaaF14
import Derived.Test.YtffflhmblelegaaF6
import Derived.Test.YtffflhmblelegaaF18
import Derived.Test.YtffflhmblelegaaXAll
import Derived.Test.YtffflhmblelegaaF31
import Derived.Test.YtffflhmblelegaaF32
import Derived.Test.YtffflhmblelegaaF33
import Derived.Test.YtffflhmblelegaaF23
import Derived.Test.YtffflhmblelegaaF35
import Derived.Test.YtffflhmblelegaaF34
import Derived.Test.YtffflhmblelegaaF41
import Derived.Test.YtffflhmblelegaaF40
import Derived.Test.YtffflhmblelegaaF42
import Derived.Test.YtffflhmblelegaaF12
import Derived.Test.YtffflhmblelegaaF11
import Derived.Test.YtffflhmblelegaaF13
import Derived.Test.YtffflhmblelegaaF10
import Derived.Test.YtffflhmblelegaaF39
import Derived.Test.YtffflhmblelegaaF43
namespace Go.Proofs.Ytffflhmblelegaa.Op
open Go.ChangeShapes Go.WideShapes Go.Deep Go.Proofs.YtffflhmblelegaaW.PrintWords
/-- Whatever reads as data of type t is told by the kind d, and I holds of it. -/
def Opens {α : Type} (P : Program) (t : TypeId) (d : Kd α) (I : α → Prop) : Prop :=
  ∀ {H : Type} (enc : TypeId × Value → H) (W : World) (base : Nat) (held : Bool) (fuel : Nat) (cs : List Value) (x : DataW H × List MemPlace),
    DataW.trod enc P W base (fun _ => true) held fuel t cs = some x → ∃ a, I a ∧ d.K W a cs
theorem opens_int {P : Program} {t : TypeId} {k : IntKind} (ht : P.underlying t = some (.int k)) : Opens P t (Kd.int k) (fun x => (Lit.int k x).wf = true) := by
  intro H enc W base held fuel cs x h
  obtain ⟨n, rfl, _, hw⟩ := DataW.trod_int ht h
  exact ⟨n, hw, rfl⟩
theorem opens_slice {α : Type} [Inhabited α] {P : Program} {t e : TypeId} {d : Kd α} {I : α → Prop} (ht : P.underlying t = some (.slice e)) (hC : P.cellsOf e = d.sz) (h : Opens P e d I) :
    Opens P t (Kd.slice e d) (fun l => l.length ≤ maxLen ∧ ∀ x ∈ l, I x) := by
  intro H enc W base held fuel cs x hx
  rcases open_slice ht hx with ⟨rfl, _⟩ | ⟨a, len, cap, m, n, D, Pl, rfl, hb, hl, hm, hmm, _, hi⟩
  · exact ⟨[], ⟨Nat.zero_le _, fun _ h => by cases h⟩, none, 0, rfl, Nat.le_refl _, rfl, Nat.zero_le _, fun h => absurd h (Nat.lt_irrefl 0)⟩
  · simp only [if_true] at hmm
    rw [hmm] at hi
    clear hmm
    have each : ∀ i, i < len → ∃ y : α, I y ∧ ∃ cs', cs'.length = d.sz ∧ d.K W y cs' ∧ ∀ j u, cs'[j]? = some u → W.cell? (a.add (i * d.sz + j)) = some u := by
      intro i hi'
      obtain ⟨cs', hc, hd⟩ := hi i (by omega)
      obtain ⟨y, iy, ky⟩ := h enc W base held n _ _ hd
      rw [hC] at hc
      obtain ⟨_, hcl, hat⟩ := World.cells?_some hc
      refine ⟨y, iy, cs', hcl, ky, fun j u hu => ?_⟩
      have hj := (List.getElem?_eq_some_iff.1 hu).1
      rw [← Go.Deep.add_add, hat j (by omega), hu]
    obtain ⟨f, hf⟩ := choose_lt each
    refine ⟨(List.range len).map f, ⟨by simpa using Nat.le_trans hl hm, ?_⟩, some a, cap, ?_, ?_, rfl, ?_, ?_⟩
    · intro x hx
      obtain ⟨i, hi', rfl⟩ := List.mem_map.1 hx
      exact (hf i (List.mem_range.1 hi')).1
    · simp
    · simpa using hl
    · have := Nat.le_trans hl hm
      unfold maxLen at this
      simpa using this
    · intro _
      refine ⟨a, rfl, fun j p hj => ?_⟩
      obtain ⟨hj', rfl⟩ := List.getElem?_eq_some_iff.1 hj
      simp only [List.getElem_map, List.getElem_range]
      obtain ⟨_, cs', h1, h2, h3⟩ := hf j (by simpa using hj')
      exact ⟨cs', h1, h2, h3⟩
/-- A slice as an argument. -/
theorem Opens.asSlice {H : Type} {enc : TypeId × Value → H} {α : Type} {P : Program} {t e : TypeId} {d : Kd α} {I : List α → Prop} (h : Opens P t (Kd.slice e d) I) {W : World} {base : Nat} {held : Bool} {A : Option Addr} {n c : Nat} {x : DataW H} {ps : List MemPlace}
    (hx : DataW.Trod enc P W base (fun _ => true) held t (.slice A n c) x ps) : ∃ l, n = l.length ∧ I l ∧ l.length ≤ c ∧ d.C W A l.length l := by
  obtain ⟨fuel, hf⟩ := hx
  obtain ⟨l, il, A', c', hcs, hl, hC⟩ := h enc W base held fuel _ _ hf
  simp only [Value.cells, List.cons.injEq, and_true, Value.slice.injEq] at hcs
  obtain ⟨rfl, rfl, rfl⟩ := hcs
  exact ⟨l, rfl, il, hl, hC⟩
end Go.Proofs.Ytffflhmblelegaa.Op
namespace Go.Proofs.Ytffflhmblelegaa.Th
open Go.RowKit Go.Proofs.YtffflhmblelegaaW.PrintWords Go.Proofs.YtffflhmblelegaaW.PrintLast Go.Proofs.YtffflhmblelegaaW.PrintMore Go.Proofs.Ytffflhmblelegaa.F
theorem w64 {x : Int} (h : -9223372036854775808 ≤ x ∧ x ≤ 9223372036854775807) : wrap64 x = x := by unfold wrap64; omega
theorem wf_u8 {x : Int} (h : (Lit.int .u8 x).wf = true) : 0 ≤ x ∧ x ≤ 255 := by
  simp only [Lit.wf, Bool.and_eq_true, decide_eq_true_eq] at h
  exact h
theorem Ev.succ {α : Type} {g : Nat → Option α} {r : α} (h : Ev (fun k => g (k + 1)) r) : Ev g r := Ev.step (fun _ => rfl) h
theorem Ev.some_ {α : Type} {r s : α} (h : s = r) : Ev (fun _ => some s) r := by subst h; exact Ev.now _
theorem Ev.pos {α : Type} {c : Prop} [Decidable c] {a b : Nat → Option α} {r : α} (hc : c) (h : Ev a r) : Ev (fun k => if c then a k else b k) r := Ev.congr (fun _ => if_pos hc) h
theorem Ev.neg {α : Type} {c : Prop} [Decidable c] {a b : Nat → Option α} {r : α} (hc : ¬ c) (h : Ev b r) : Ev (fun k => if c then a k else b k) r := Ev.congr (fun _ => if_neg hc) h
/-- A callee without rounds. -/
theorem Ev.bind0 {α β : Type} {o : Option α} {a : α} {f : Nat → α → Option β} {r : β} (h : o = some a) (k : Ev (fun n => f n a) r) : Ev (fun n => o.bind (f n)) r := by subst h; exact k
theorem Ev.cast {α : Type} {g : Nat → Option α} {r s : α} (h : Ev g r) (e : r = s) : Ev g s := e ▸ h
/-- A proposition as a Bool. -/
noncomputable def dec (p : Prop) : Bool := @decide p (Classical.propDecidable p)
theorem dec_iff {p : Prop} : dec p = true ↔ p := by unfold dec; exact @decide_eq_true_iff p (Classical.propDecidable p)
theorem dec_t {p : Prop} (h : p) : dec p = true := dec_iff.2 h
theorem dec_f {p : Prop} (h : ¬ p) : dec p = false := by
  cases e : dec p with
  | false => rfl
  | true => exact absurd (dec_iff.1 e) h
theorem dec_of {b : Bool} {p : Prop} (h : b = true ↔ p) : b = dec p := by rw [Bool.eq_iff_iff, h, dec_iff]
theorem dec_congr {p q : Prop} (h : p ↔ q) : dec p = dec q := by rw [Bool.eq_iff_iff, dec_iff, dec_iff, h]
theorem Ev.tt {g : Nat → Option Bool} {p : Prop} (hp : p) (h : Ev g true) : Ev g (dec p) := by rw [dec_t hp]; exact h
theorem Ev.ff {g : Nat → Option Bool} {p : Prop} (hp : ¬ p) (h : Ev g false) : Ev g (dec p) := by rw [dec_f hp]; exact h
theorem Ev.dec {g : Nat → Option Bool} {p : Prop} {b : Bool} (h : Ev g b) (hb : b = true ↔ p) : Ev g (dec p) := Ev.cast h (dec_of hb)
theorem rd_nat (l : List Int) (i : Nat) : rd l (i : Int) = l.getD i 0 := by simp [rd]
end Go.Proofs.Ytffflhmblelegaa.Th
namespace Go.Proofs.Ytffflhmblelegaa.Th
open Go.RowKit Go.Proofs.YtffflhmblelegaaW.PrintWords Go.Proofs.YtffflhmblelegaaW.PrintMore Go.Proofs.Ytffflhmblelegaa.F
abbrev T := S52
theorem T.ext {s t : T} (h0 : s.f0 = t.f0) (h1 : s.f1 = t.f1) : s = t := by cases s; cases t; simp_all
instance : DecidableEq T := fun a b => decidable_of_iff (a.f0 = b.f0 ∧ a.f1 = b.f1) ⟨fun h => T.ext h.1 h.2, fun h => by subst h; exact ⟨rfl, rfl⟩⟩
instance : Inhabited T := ⟨⟨0, 0⟩⟩
/-- The order of ties. -/
def lt (s t : T) : Prop := s.f0 < t.f0 ∨ s.f0 = t.f0 ∧ s.f1 < t.f1
instance (s t : T) : Decidable (lt s t) := inferInstanceAs (Decidable (_ ∨ _))
theorem lt_irrefl (s : T) : ¬ lt s s := by unfold lt; omega
theorem lt_trans {s t u : T} (h : lt s t) (k : lt t u) : lt s u := by unfold lt at *; omega
theorem lt_asymm {s t : T} (h : lt s t) : ¬ lt t s := by unfold lt at *; omega
theorem lt_tri (s t : T) : lt s t ∨ s = t ∨ lt t s := by
  by_cases h : s.f0 = t.f0 <;> by_cases k : s.f1 = t.f1
  · exact Or.inr (Or.inl (T.ext h k))
  · unfold lt; omega
  · unfold lt; omega
  · unfold lt; omega
/-- Strictly ascending. -/
def Asc (E : List T) : Prop := E.Pairwise lt
/-- Neighbours ascend. -/
def AscN : List T → Bool
  | [] => true
  | [_] => true
  | s :: t :: r => decide (lt s t) && AscN (t :: r)
theorem ascN_iff : ∀ E : List T, AscN E = true ↔ Asc E
  | [] => by simp [AscN, Asc]
  | [_] => by simp [AscN, Asc]
  | s :: t :: r => by
    have ih := ascN_iff (t :: r)
    simp only [AscN, Bool.and_eq_true, decide_eq_true_eq, ih, Asc, List.pairwise_cons]
    constructor
    · rintro ⟨h, k, m⟩
      refine ⟨fun u hu => ?_, k, m⟩
      rcases List.mem_cons.1 hu with rfl | hu
      · exact h
      · exact lt_trans h (k u hu)
    · rintro ⟨h, k⟩
      exact ⟨h t (by simp), k⟩
/-- A valid net of n knots. -/
structure OK (n : Int) (E : List T) : Prop where
  n0 : 0 ≤ n
  n8 : n ≤ 8
  tie : ∀ t ∈ E, 0 ≤ t.f0 ∧ t.f0 < t.f1 ∧ t.f1 < n
  asc : Asc E
theorem rd_T_nat (E : List T) (i : Nat) (h : i < E.length) : rd_T52 E i = E[i] := by
  simp [rd_T52, List.getD_eq_getElem?_getD, List.getElem?_eq_getElem h]
/-- How many ties there can be. -/
theorem asc_length (E : List T) (h : Asc E) : ∀ m : Nat, (∀ t ∈ E, 0 ≤ t.f0 * 8 + t.f1 ∧ t.f1 < 8 ∧ 0 ≤ t.f1 ∧ t.f0 * 8 + t.f1 < m) → E.length ≤ m := by
  -- the numbers 8 a + b ascend
  have key : ∀ (E : List T), Asc E → ∀ lo m : Int, lo ≤ m → (∀ t ∈ E, lo ≤ t.f0 * 8 + t.f1 ∧ t.f1 < 8 ∧ 0 ≤ t.f1 ∧ t.f0 * 8 + t.f1 < m) → (E.length : Int) ≤ m - lo := by
    intro E
    induction E with
    | nil => intro _ lo m h _; simp; omega
    | cons s r ih =>
      intro ha lo m hlm hb
      have hs := hb s (by simp)
      have := ih (List.Pairwise.of_cons ha) (s.f0 * 8 + s.f1 + 1) m (by omega) (fun t ht => by
        have h1 := (List.pairwise_cons.1 ha).1 t ht
        have h2 := hb t (by simp [ht])
        unfold lt at h1
        omega)
      simp only [List.length_cons]
      omega
  intro m hb
  have := key E h 0 m (by omega) (fun t ht => by have := hb t ht; omega)
  omega
theorem OK.length {n : Int} {E : List T} (h : OK n E) : E.length ≤ 64 := by
  refine asc_length E h.asc 64 (fun t ht => ?_)
  have := h.tie t ht
  have := h.n8
  omega
theorem l6In (a b c : Int) : spec_l6In.f a b c = some (decide (b ≤ a ∧ a ≤ c)) := by
  unfold spec_l6In.f
  by_cases h : a ≥ b
  · rw [if_pos h]; congr 1; exact decide_eq_decide.2 (by omega)
  · rw [if_neg h]; congr 1; symm; exact decide_eq_false (by omega)
theorem l1Less (s t : T) : spec_l1Less.f s.f0 s.f1 t.f0 t.f1 = some (decide (lt s t)) := by
  unfold spec_l1Less.f lt
  by_cases h : s.f0 < t.f0
  · rw [if_pos h]; congr 1; symm; exact decide_eq_true (by omega)
  · rw [if_neg h]
    by_cases k : s.f0 = t.f0
    · rw [if_pos k]; congr 1; exact decide_eq_decide.2 (by omega)
    · rw [if_neg k]; congr 1; symm; exact decide_eq_false (by omega)
/-- What a round asks of the tie at i. -/
def okAt (n : Int) (E : List T) (i : Nat) : Bool :=
  match E[i]? with
  | none => true
  | some t => decide (0 ≤ t.f0 ∧ t.f0 ≤ n - 1) && decide (t.f0 + 1 ≤ t.f1 ∧ t.f1 ≤ n - 1) && (match i with | 0 => true | j + 1 => match E[j]? with | none => true | some s => decide (lt s t))
theorem ev_spec_NetOk_loop (n : Int) (E : List T) (hn : 0 ≤ n ∧ n ≤ 8) (hE : E.length ≤ 64) (hw : ∀ t ∈ E, (-9223372036854775808 ≤ t.f0 ∧ t.f0 ≤ 9223372036854775807)) :
    ∀ (d i : Nat), i + d = E.length → Ev (fun k => spec_NetOk.l0 k i n E) ((List.range' i d).all (okAt n E))
  | 0, i, h => by
    refine Ev.succ ?_
    simp only [spec_NetOk.l0]
    refine Ev.neg (by omega) ?_
    exact Ev.some_ (by simp)
  | d + 1, i, h => by
    have hi : i < E.length := by omega
    have hE' : E[i]? = some E[i] := List.getElem?_eq_getElem hi
    refine Ev.succ ?_
    simp only [spec_NetOk.l0, rd_T_nat E i hi]
    refine Ev.pos (by omega) (Ev.pos (by omega) ?_)
    rw [w64 (x := n - 1) (by omega)]
    refine Ev.bind0 (l6In _ _ _) ?_
    simp only [List.range'_succ, List.all_cons]
    by_cases h1 : 0 ≤ E[i].f0 ∧ E[i].f0 ≤ n - 1
    · refine Ev.pos (decide_eq_true h1) ?_
      have h2 := hw E[i] (List.getElem_mem hi)
      rw [w64 (x := E[i].f0 + 1) (by omega)]
      refine Ev.bind0 (l6In _ _ _) ?_
      by_cases h3 : E[i].f0 + 1 ≤ E[i].f1 ∧ E[i].f1 ≤ n - 1
      · refine Ev.pos (decide_eq_true h3) ?_
        have hrec := ev_spec_NetOk_loop n E hn hE hw d (i + 1) (by omega)
        cases i with
        | zero =>
          refine Ev.neg (by omega) ?_
          rw [w64 (by omega)]
          refine Ev.cast hrec ?_
          simp [okAt, hE', h1, h3]
        | succ j =>
          refine Ev.pos (by omega) ?_
          have hj : wrap64 (((j + 1 : Nat) : Int) - 1) = (j : Int) := by rw [w64 (by omega)]; omega
          rw [hj]
          refine Ev.pos (by omega) (Ev.pos (by omega) ?_)
          rw [rd_T_nat E j (by omega)]
          refine Ev.bind0 (l1Less _ _) ?_
          have hEj : E[j]? = some (E[j]'(by omega)) := List.getElem?_eq_getElem (by omega)
          by_cases h4 : lt (E[j]'(by omega)) E[j + 1]
          · refine Ev.pos (decide_eq_true h4) ?_
            rw [w64 (by omega)]
            refine Ev.cast hrec ?_
            simp [okAt, hE', hEj, h1, h3, h4]
          · refine Ev.neg (by simp [h4]) ?_
            exact Ev.some_ (by simp [okAt, hE', hEj, h4])
      · refine Ev.neg (by simp [h3]) ?_
        refine Ev.some_ ?_
        simp only [okAt, hE', decide_eq_false h3, Bool.and_false, Bool.false_and]
    · refine Ev.neg (by simp only [decide_eq_true_eq]; exact h1) ?_
      refine Ev.some_ ?_
      simp only [okAt, hE', decide_eq_false h1, Bool.false_and]
theorem okAt_iff (n : Int) (E : List T) (hn : 0 ≤ n ∧ n ≤ 8) : (List.range' 0 E.length).all (okAt n E) = true ↔ OK n E := by
  rw [List.all_eq_true]
  have hr : ∀ i, i ∈ List.range' 0 E.length ↔ i < E.length := fun i => by simp [List.mem_range']
  constructor
  · intro h
    refine ⟨hn.1, hn.2, fun t ht => ?_, ?_⟩
    · obtain ⟨i, hi, rfl⟩ := List.mem_iff_getElem.1 ht
      have := h i ((hr i).2 hi)
      simp only [okAt, List.getElem?_eq_getElem hi, Bool.and_eq_true, decide_eq_true_eq] at this
      omega
    · refine List.pairwise_iff_getElem.2 ?_
      -- neighbours ascend, so all do
      have nb : ∀ j, (hj : j + 1 < E.length) → lt (E[j]'(by omega)) E[j + 1] := fun j hj => by
        have := h (j + 1) ((hr _).2 hj)
        simp only [okAt, List.getElem?_eq_getElem hj, List.getElem?_eq_getElem (show j < E.length by omega), Bool.and_eq_true, decide_eq_true_eq] at this
        exact this.2
      intro i j hi hj hij
      induction j with
      | zero => omega
      | succ j ih =>
        by_cases e : i = j
        · subst e; exact nb i hj
        · exact lt_trans (ih (by omega) (by omega)) (nb j hj)
  · intro h i hi
    rw [hr] at hi
    have h1 := h.tie E[i] (List.getElem_mem hi)
    simp only [okAt, List.getElem?_eq_getElem hi, Bool.and_eq_true, decide_eq_true_eq]
    refine ⟨⟨by omega, by omega⟩, ?_⟩
    cases i with
    | zero => rfl
    | succ j =>
      simp only [List.getElem?_eq_getElem (show j < E.length by omega), decide_eq_true_eq]
      exact List.pairwise_iff_getElem.1 h.asc j (j + 1) (by omega) hi (by omega)
/-- Numbers that a machine's word holds. -/
def WF (E : List T) : Prop := ∀ t ∈ E, (-9223372036854775808 ≤ t.f0 ∧ t.f0 ≤ 9223372036854775807) ∧ (-9223372036854775808 ≤ t.f1 ∧ t.f1 ≤ 9223372036854775807)
theorem OK.wf {n : Int} {E : List T} (h : OK n E) : WF E := fun t ht => by have := h.tie t ht; have := h.n8; omega
theorem ev_spec_NetOk (n : Int) (E : List T) (hE : E.length ≤ 1048576) (hw : WF E) : Ev (fun k => spec_NetOk.f k n E) (dec (OK n E)) := by
  simp only [spec_NetOk.f]
  refine Ev.bind0 (l6In _ _ _) ?_
  by_cases hn : 0 ≤ n ∧ n ≤ 8
  · refine Ev.pos (decide_eq_true hn) ?_
    refine Ev.succ ?_
    simp only [spec_NetOk.j0]
    by_cases hl : (E.length : Int) > 64
    · refine Ev.pos (decide_eq_true hl) ?_
      exact Ev.ff (fun h => by have := h.length; omega) (Ev.now _)
    · refine Ev.neg (by simp only [decide_eq_true_eq]; exact hl) ?_
      exact Ev.dec (ev_spec_NetOk_loop n E hn (by omega) (fun t ht => (hw t ht).1) E.length 0 (by omega)) (okAt_iff n E hn)
  · refine Ev.neg (by simp only [decide_eq_true_eq]; exact hn) ?_
    refine Ev.succ ?_
    simp only [spec_NetOk.j0]
    refine Ev.pos trivial ?_
    exact Ev.ff (fun h => hn ⟨h.n0, h.n8⟩) (Ev.now _)
theorem compare (a b : Int) : cmp_Compare_int.f a b = some (if a < b then -1 else if a > b then 1 else 0) := by
  unfold cmp_Compare_int.f cmp_isNaN_int.f
  simp only [bne_self_eq_false, Option.bind_some]
  rw [if_neg (by decide), if_neg (by decide)]
  split
  · rfl
  · split <;> rfl
theorem ev_or2 (x y : Int) : Ev (fun k => cmp_Or_int.f k [x, y]) (if x = 0 then y else x) := by
  simp only [cmp_Or_int.f]
  refine Ev.succ ?_
  simp only [cmp_Or_int.l0, List.length_cons, List.length_nil]
  refine Ev.pos (by decide) (Ev.pos (by decide) (Ev.pos (by simp) ?_))
  have r0 : rd [x, y] 0 = x := rfl
  rw [r0]
  by_cases h : x = 0
  · refine Ev.pos h ?_
    rw [if_pos h]
    refine Ev.succ ?_
    simp only [cmp_Or_int.l0]
    rw [show wrap64 (0 + 1) = 1 from by unfold wrap64; omega]
    refine Ev.pos (by decide) (Ev.pos (by decide) (Ev.pos (by simp) ?_))
    have r1 : rd [x, y] 1 = y := rfl
    rw [r1]
    by_cases k : y = 0
    · refine Ev.pos k ?_
      refine Ev.succ ?_
      simp only [cmp_Or_int.l0]
      rw [show wrap64 (1 + 1) = 2 from by unfold wrap64; omega]
      refine Ev.neg (by decide) ?_
      exact Ev.some_ k.symm
    · exact Ev.neg k (Ev.now _)
  · refine Ev.neg h ?_
    rw [if_neg h]
    exact Ev.now _
theorem ev_tieOrder (s t : T) : ∃ c : Int, Ev (fun k => impl_tieOrder.f k s.f0 s.f1 t.f0 t.f1) c ∧ (c < 0 ↔ lt s t) := by
  refine ⟨if (if s.f0 < t.f0 then (-1 : Int) else if s.f0 > t.f0 then 1 else 0) = 0 then (if s.f1 < t.f1 then -1 else if s.f1 > t.f1 then 1 else 0) else (if s.f0 < t.f0 then -1 else if s.f0 > t.f0 then 1 else 0), ?_, ?_⟩
  · simp only [impl_tieOrder.f]
    refine Ev.bind0 (compare _ _) (Ev.bind0 (compare _ _) (Ev.bind (ev_or2 _ _) ?_))
    exact Ev.now _
  · unfold lt
    by_cases h1 : s.f0 < t.f0
    · simp only [if_pos h1]
      rw [if_neg (by omega)]
      omega
    · by_cases h2 : s.f0 > t.f0
      · simp only [if_neg h1, if_pos h2]
        rw [if_neg (by omega)]
        omega
      · simp only [if_neg h1, if_neg h2]
        rw [if_pos trivial]
        split
        · omega
        · split <;> omega
theorem ev_ascending_loop (E : List T) (hE : E.length ≤ 1048576) : ∀ (d i : Nat), 0 < i → i + d = E.length → Ev (fun k => impl_ascending.l0 k E i) (AscN (E.drop (i - 1)))
  | 0, i, h0, h => by
    refine Ev.succ ?_
    simp only [impl_ascending.l0]
    refine Ev.neg (by omega) ?_
    refine Ev.some_ ?_
    have : E.drop (i - 1) = [E[i - 1]'(by omega)] := by
      rw [List.drop_eq_getElem_cons (by omega), List.drop_of_length_le (by omega)]
    rw [this]; rfl
  | d + 1, i, h0, h => by
    obtain ⟨j, rfl⟩ : ∃ j, i = j + 1 := ⟨i - 1, by omega⟩
    have hj : j < E.length := by omega
    have hj1 : j + 1 < E.length := by omega
    refine Ev.succ ?_
    simp only [impl_ascending.l0]
    have hw : wrap64 (((j + 1 : Nat) : Int) - 1) = (j : Int) := by rw [w64 (by omega)]; omega
    rw [hw]
    refine Ev.pos (by omega) (Ev.pos (by omega) (Ev.pos (by omega) (Ev.pos (by omega) ?_)))
    rw [rd_T_nat E j hj, rd_T_nat E (j + 1) hj1]
    obtain ⟨c, hc, hlt⟩ := ev_tieOrder E[j] E[j + 1]
    refine Ev.bind hc ?_
    have hd : E.drop (j + 1 - 1) = E[j] :: E[j + 1] :: E.drop (j + 2) := by
      rw [Nat.add_sub_cancel, List.drop_eq_getElem_cons hj, List.drop_eq_getElem_cons hj1]
    rw [hd]
    simp only [AscN]
    by_cases h4 : c ≥ 0
    · refine Ev.pos h4 (Ev.some_ ?_)
      rw [decide_eq_false (fun k => by have := hlt.2 k; omega)]
      rfl
    · refine Ev.neg h4 ?_
      rw [w64 (by omega)]
      refine Ev.cast (ev_ascending_loop E hE d (j + 2) (by omega) (by omega)) ?_
      rw [decide_eq_true (hlt.1 (by omega)), show j + 2 - 1 = j + 1 from rfl, List.drop_eq_getElem_cons hj1]
      simp
theorem ev_ascending (E : List T) (hE : E.length ≤ 1048576) : Ev (fun k => impl_ascending.f k E) (dec (Asc E)) := by
  simp only [impl_ascending.f]
  rw [← dec_of (ascN_iff E)]
  by_cases h : E.length = 0
  · refine Ev.succ ?_
    simp only [impl_ascending.l0]
    refine Ev.neg (by omega) ?_
    have : E = [] := List.length_eq_zero_iff.1 h
    subst this
    exact Ev.now _
  · have := ev_ascending_loop E hE (E.length - 1) 1 (by omega) (by omega)
    simpa using this
theorem ev_impl_NetOk_loop (n : Int) (E : List T) (hE : E.length ≤ 1048576) : ∀ (d i : Nat), i + d = E.length →
    Ev (fun k => impl_NetOk.l0 k E E.length i n E) (dec ((∀ t ∈ E.drop i, 0 ≤ t.f0 ∧ t.f0 < t.f1 ∧ t.f1 < n) ∧ Asc E))
  | 0, i, h => by
    refine Ev.succ ?_
    simp only [impl_NetOk.l0]
    refine Ev.neg (by omega) ?_
    refine Ev.bind (ev_ascending E hE) ?_
    refine Ev.some_ (dec_congr ?_)
    rw [List.drop_of_length_le (by omega)]
    simp
  | d + 1, i, h => by
    have hi : i < E.length := by omega
    refine Ev.succ ?_
    simp only [impl_NetOk.l0, rd_T_nat E i hi]
    refine Ev.pos (by omega) (Ev.pos (by omega) (Ev.pos (by omega) ?_))
    rw [List.drop_eq_getElem_cons hi]
    by_cases h1 : E[i].f0 < 0
    · exact Ev.pos h1 (Ev.ff (fun a => by have := a.1 E[i] List.mem_cons_self; omega) (Ev.now _))
    · refine Ev.neg h1 ?_
      by_cases h2 : E[i].f0 ≥ E[i].f1
      · exact Ev.pos h2 (Ev.ff (fun a => by have := a.1 E[i] List.mem_cons_self; omega) (Ev.now _))
      · refine Ev.neg h2 ?_
        by_cases h3 : E[i].f1 ≥ n
        · exact Ev.pos h3 (Ev.ff (fun a => by have := a.1 E[i] List.mem_cons_self; omega) (Ev.now _))
        · refine Ev.neg h3 ?_
          rw [w64 (by omega)]
          refine Ev.cast (ev_impl_NetOk_loop n E hE d (i + 1) (by omega)) (dec_congr ?_)
          simp only [List.forall_mem_cons]
          exact ⟨fun a => ⟨⟨by omega, a.1⟩, a.2⟩, fun a => ⟨a.1.2, a.2⟩⟩
theorem ev_impl_NetOk (n : Int) (E : List T) (hE : E.length ≤ 1048576) : Ev (fun k => impl_NetOk.f k n E) (dec (OK n E)) := by
  simp only [impl_NetOk.f]
  by_cases h0 : n < 0
  · refine Ev.pos h0 (Ev.succ ?_)
    simp only [impl_NetOk.j0]
    exact Ev.pos trivial (Ev.ff (fun h => by have := h.n0; omega) (Ev.now _))
  · refine Ev.neg h0 (Ev.succ ?_)
    simp only [impl_NetOk.j0]
    by_cases h8 : n > 8
    · exact Ev.pos (decide_eq_true h8) (Ev.ff (fun h => by have := h.n8; omega) (Ev.now _))
    · refine Ev.neg (by simp only [decide_eq_true_eq]; exact h8) ?_
      refine Ev.cast (ev_impl_NetOk_loop n E hE E.length 0 (by omega)) (dec_congr ?_)
      rw [List.drop_zero]
      exact ⟨fun h => ⟨by omega, by omega, h.1, h.2⟩, fun h => ⟨h.tie, h.asc⟩⟩
def tie (a b : Int) : T := if a < b then ⟨a, b⟩ else ⟨b, a⟩
theorem tie_comm (a b : Int) : tie a b = tie b a := by
  unfold tie
  by_cases h : a < b
  · rw [if_pos h, if_neg (by omega)]
  · by_cases k : b < a
    · rw [if_neg h, if_pos k]
    · have : a = b := by omega
      subst this; rfl
theorem l1Tie (a b : Int) : spec_l1Tie.f a b = some ((tie a b).f0, (tie a b).f1) := by
  unfold spec_l1Tie.f tie
  split <;> rfl
def Has (E : List T) (a b : Int) : Prop := tie a b ∈ E
theorem Has.symm {E : List T} {a b : Int} (h : Has E a b) : Has E b a := by unfold Has at *; rw [tie_comm]; exact h
theorem ev_l1Has_loop (n : Int) (E : List T) (a b : Int) (hE : E.length ≤ 1048576) : ∀ (d i : Nat), i + d = E.length → Ev (fun k => spec_l1Has.l0 k a b i n E) (dec (tie a b ∈ E.drop i))
  | 0, i, h => by
    refine Ev.succ ?_
    simp only [spec_l1Has.l0]
    refine Ev.neg (by omega) (Ev.ff ?_ (Ev.now _))
    rw [List.drop_of_length_le (by omega)]; simp
  | d + 1, i, h => by
    have hi : i < E.length := by omega
    refine Ev.succ ?_
    simp only [spec_l1Has.l0, rd_T_nat E i hi]
    refine Ev.pos (by omega) (Ev.pos (by omega) (Ev.bind0 (l1Tie a b) ?_))
    rw [List.drop_eq_getElem_cons hi]
    by_cases e : E[i] = tie a b
    · exact Ev.pos (by rw [e]; simp) (Ev.tt (by rw [e]; exact List.mem_cons_self) (Ev.now _))
    · refine Ev.neg (fun k => e ?_) ?_
      · simp only [Bool.and_eq_true, beq_iff_eq] at k
        exact T.ext k.1 k.2
      · rw [w64 (by omega)]
        refine Ev.cast (ev_l1Has_loop n E a b hE d (i + 1) (by omega)) (dec_congr ?_)
        rw [List.mem_cons]
        exact ⟨Or.inr, fun k => k.resolve_left (fun x => e x.symm)⟩
theorem ev_l1Has (n : Int) (E : List T) (a b : Int) (hE : E.length ≤ 1048576) : Ev (fun k => spec_l1Has.f k n E a b) (dec (Has E a b)) := by
  simp only [spec_l1Has.f]
  exact ev_l1Has_loop n E a b hE E.length 0 (by omega)
/-- A knot of a net. -/
def In (n k : Int) : Prop := 0 ≤ k ∧ k < n
instance (n k : Int) : Decidable (In n k) := inferInstanceAs (Decidable (_ ∧ _))
theorem knot_eq (n : Int) (E : List T) (a : Int) : impl_Net_knot.f n E a = some (dec (In n a)) := by
  unfold impl_Net_knot.f
  by_cases h : a ≥ 0
  · rw [if_pos h]; congr 1; exact dec_of (by unfold In; rw [decide_eq_true_iff]; omega)
  · rw [if_neg h]; congr 1; exact (dec_f (by unfold In; omega)).symm
theorem ev_l1Knot (n : Int) (E : List T) (a : Int) (hE : E.length ≤ 1048576) (hw : WF E) : Ev (fun k => spec_l1Knot.f k n E a) (dec (OK n E ∧ In n a)) := by
  simp only [spec_l1Knot.f]
  refine Ev.bind (ev_spec_NetOk n E hE hw) ?_
  by_cases h : OK n E
  · have := h.n0
    have := h.n8
    refine Ev.pos (dec_t h) ?_
    rw [w64 (by omega)]
    refine Ev.bind0 (l6In _ _ _) (Ev.some_ (dec_of ?_))
    rw [decide_eq_true_iff]
    unfold In
    exact ⟨fun k => ⟨h, by omega⟩, fun k => by omega⟩
  · exact Ev.neg (by rw [dec_f h]; simp) (Ev.ff (fun k => h k.1) (Ev.now _))
theorem ev_spec_NetHas (n : Int) (E : List T) (a b : Int) (hE : E.length ≤ 1048576) (hw : WF E) : Ev (fun k => spec_NetHas.f k n E a b) (dec (OK n E ∧ Has E a b)) := by
  simp only [spec_NetHas.f]
  refine Ev.bind (ev_spec_NetOk n E hE hw) ?_
  by_cases h : OK n E
  · exact Ev.pos (dec_t h) (Ev.bind (ev_l1Has n E a b hE) (Ev.some_ (dec_congr ⟨fun k => ⟨h, k⟩, fun k => k.2⟩)))
  · exact Ev.neg (by rw [dec_f h]; simp) (Ev.ff (fun k => h k.1) (Ev.now _))
theorem OK.has {n : Int} {E : List T} (h : OK n E) {a b : Int} (hab : Has E a b) : In n a ∧ In n b ∧ a ≠ b := by
  have := h.tie _ hab
  unfold Th.tie at this
  unfold In
  split at this <;> simp only at this <;> omega
end Go.Proofs.Ytffflhmblelegaa.Th
namespace Go.Proofs.Ytffflhmblelegaa.Th
open Go.RowKit Go.Proofs.YtffflhmblelegaaW.PrintWords Go.Proofs.YtffflhmblelegaaW.PrintLast Go.Proofs.YtffflhmblelegaaW.PrintMore Go.Proofs.Ytffflhmblelegaa.F
/-- The knots 0, 1, .. of a net. -/
def ks (n : Int) : List Int := (List.range n.toNat).map (fun i : Nat => (i : Int))
theorem mem_ks {n k : Int} : k ∈ ks n ↔ 0 ≤ k ∧ k < n := by
  unfold ks
  simp only [List.mem_map, List.mem_range]
  exact ⟨fun ⟨i, h, e⟩ => by omega, fun h => ⟨k.toNat, by omega, by omega⟩⟩
theorem ks_length (n : Int) : (ks n).length = n.toNat := by simp [ks]
theorem ks_getElem (n : Int) (i : Nat) (h : i < (ks n).length) : (ks n)[i] = (i : Int) := by simp [ks]
theorem ks_pairwise (n : Int) : (ks n).Pairwise (· < ·) := by
  refine List.pairwise_iff_getElem.2 (fun i j hi hj h => ?_)
  rw [ks_getElem, ks_getElem]; omega
/-- Counting on from j. -/
def ksFrom (n j : Int) : List Int := (ks n).drop j.toNat
theorem ksFrom_zero (n : Int) : ksFrom n 0 = ks n := by simp [ksFrom]
theorem ksFrom_end {n j : Int} (h : n ≤ j) : ksFrom n j = [] := by
  unfold ksFrom
  exact List.drop_of_length_le (by rw [ks_length]; omega)
theorem ksFrom_cons {n j : Int} (h0 : 0 ≤ j) (h : j < n) : ksFrom n j = j :: ksFrom n (j + 1) := by
  unfold ksFrom
  rw [List.drop_eq_getElem_cons (by rw [ks_length]; omega), ks_getElem]
  rw [show (j + 1).toNat = j.toNat + 1 by omega]
  congr 1
  omega
theorem ks_split {n j : Int} (h0 : 0 ≤ j) (h : j < n) : ks n = ks j ++ j :: ksFrom n (j + 1) := by
  have : ks j = (ks n).take j.toNat := by
    unfold ks
    rw [← List.map_take, List.take_range, Nat.min_eq_left (by omega)]
  rw [this, ← ksFrom_cons h0 h, ksFrom, List.take_append_drop]
theorem ks_succ {j : Int} (h0 : 0 ≤ j) : ks (j + 1) = ks j ++ [j] := by
  rw [ks_split h0 (by omega : j < j + 1), ksFrom_end (by omega)]
theorem rd_i (l : List Int) (x : Int) (h : 0 ≤ x) (k : x < l.length) : rd l x = l[x.toNat]'(by omega) := by
  simp [rd, List.getD_eq_getElem?_getD, List.getElem?_eq_getElem (show x.toNat < l.length by omega)]
theorem rdB_i (l : List Bool) (x : Int) (h : 0 ≤ x) (k : x < l.length) : rdOf false l x = l[x.toNat]'(by omega) := by
  simp [rdOf, List.getD_eq_getElem?_getD, List.getElem?_eq_getElem (show x.toNat < l.length by omega)]
theorem rd_set (l : List Int) (i j x : Int) (h : 0 ≤ i) (k : i < l.length) (hj : 0 ≤ j) : rd (l.set i.toNat x) j = if j = i then x else rd l j := by
  unfold rd
  simp only [List.getD_eq_getElem?_getD]
  by_cases e : j = i
  · subst e
    rw [List.getElem?_set_self (by omega), if_pos rfl]; rfl
  · rw [if_neg e, List.getElem?_set_ne (by omega)]
theorem rdB_set (l : List Bool) (i j : Int) (x : Bool) (h : 0 ≤ i) (k : i < l.length) (hj : 0 ≤ j) : rdOf false (l.set i.toNat x) j = if j = i then x else rdOf false l j := by
  unfold rdOf
  simp only [List.getD_eq_getElem?_getD]
  by_cases e : j = i
  · subst e
    rw [List.getElem?_set_self (by omega), if_pos rfl]; rfl
  · rw [if_neg e, List.getElem?_set_ne (by omega)]
theorem ext_rd {a b : List Int} (h : a.length = b.length) (k : ∀ x : Int, 0 ≤ x → x < a.length → rd a x = rd b x) : a = b := by
  refine List.ext_getElem h (fun i h1 h2 => ?_)
  have := k i (by omega) (by omega)
  rw [rd_i a i (by omega) (by omega), rd_i b i (by omega) (by omega)] at this
  exact this
theorem ext_rdB {a b : List Bool} (h : a.length = b.length) (k : ∀ x : Int, 0 ≤ x → x < a.length → rdOf false a x = rdOf false b x) : a = b := by
  refine List.ext_getElem h (fun i h1 h2 => ?_)
  have := k i (by omega) (by omega)
  rw [rdB_i a i (by omega) (by omega), rdB_i b i (by omega) (by omega)] at this
  exact this
theorem rd_mapks (n : Int) (f : Int → Int) (x : Int) (h : 0 ≤ x) (k : x < n) : rd ((ks n).map f) x = f x := by
  rw [rd_i _ _ h (by rw [List.length_map, ks_length]; omega), List.getElem_map, ks_getElem]
  congr 1; omega
theorem rdB_mapks (n : Int) (f : Int → Bool) (x : Int) (h : 0 ≤ x) (k : x < n) : rdOf false ((ks n).map f) x = f x := by
  rw [rdB_i _ _ h (by rw [List.length_map, ks_length]; omega), List.getElem_map, ks_getElem]
  congr 1; omega
theorem sum_set : ∀ (l : List Int) (i : Nat) (x : Int) (h : i < l.length), (l.set i x).sum = l.sum - l[i] + x
  | [], i, x, h => by simp at h
  | a :: l, 0, x, h => by simp; omega
  | a :: l, i + 1, x, h => by
    have h' : i < l.length := by simpa using h
    have := sum_set l i x h'
    simp only [List.set_cons_succ, List.sum_cons, List.getElem_cons_succ, this]
    omega
theorem sum_nonneg : ∀ (l : List Int), (∀ x ∈ l, 0 ≤ x) → 0 ≤ l.sum
  | [], _ => by simp
  | a :: l, h => by
    have := sum_nonneg l (fun x hx => h x (by simp [hx]))
    have := h a (by simp)
    simp only [List.sum_cons]; omega
/-- How many are false. -/
def falses : List Bool → Nat
  | [] => 0
  | b :: l => (if b then 0 else 1) + falses l
theorem falses_set : ∀ (l : List Bool) (i : Nat) (h : i < l.length), l[i] = false → falses (l.set i true) + 1 = falses l
  | [], i, h, _ => by simp at h
  | a :: l, 0, h, e => by
    simp only [List.getElem_cons_zero] at e
    subst e
    simp [falses]; omega
  | a :: l, i + 1, h, e => by
    have h' : i < l.length := by simpa using h
    have := falses_set l i h' (by simpa using e)
    simp only [List.set_cons_succ, falses]
    omega
theorem rd_getElem (l : List Int) (i : Nat) (h : i < l.length) : rd l (i : Int) = l[i] := by
  rw [rd_nat, List.getD_eq_getElem?_getD, List.getElem?_eq_getElem h, Option.getD_some]
/-- The second is come to from the first. -/
inductive Conn (E : List T) : Int → Int → Prop
  | refl (a : Int) : Conn E a a
  | step {a b c : Int} : Conn E a b → Has E b c → Conn E a c
theorem Conn.one {E : List T} {a b : Int} (h : Has E a b) : Conn E a b := .step (.refl a) h
theorem Conn.trans {E : List T} {a b c : Int} (h : Conn E a b) (k : Conn E b c) : Conn E a c := by
  induction k with
  | refl => exact h
  | step _ m ih => exact .step ih m
theorem Conn.symm {E : List T} {a b : Int} (h : Conn E a b) : Conn E b a := by
  induction h with
  | refl => exact .refl _
  | step _ m ih => exact (Conn.one m.symm).trans ih
theorem Conn.comm {E : List T} {a b : Int} : Conn E a b ↔ Conn E b a := ⟨Conn.symm, Conn.symm⟩
theorem Conn.mono {E F : List T} (h : ∀ t, t ∈ E → t ∈ F) {a b : Int} (k : Conn E a b) : Conn F a b := by
  induction k with
  | refl => exact .refl _
  | step _ m ih => exact .step ih (h _ m)
theorem Conn.congr {E F : List T} (h : ∀ t, t ∈ E ↔ t ∈ F) {a b : Int} : Conn E a b ↔ Conn F a b := ⟨Conn.mono fun t => (h t).1, Conn.mono fun t => (h t).2⟩
/-- What ties keep, what is come to keeps. -/
theorem Conn.keeps {E : List T} {P : Int → Prop} (h : ∀ a b, Has E a b → P a → P b) {a b : Int} (k : Conn E a b) (ha : P a) : P b := by
  induction k with
  | refl => exact ha
  | step _ m ih => exact h _ _ m ih
theorem Conn.inNet {n : Int} {E : List T} (h : OK n E) {a b : Int} (k : Conn E a b) (ha : In n a) : In n b := k.keeps (fun _ _ m _ => (h.has m).2.1) ha
theorem Conn.first {E : List T} {a b : Int} (h : Conn E a b) : a = b ∨ ∃ c, Has E a c ∧ Conn E c b := by
  induction h with
  | refl => exact Or.inl rfl
  | step m hb ih =>
    rcases ih with rfl | ⟨c, h1, h2⟩
    · exact Or.inr ⟨_, hb, .refl _⟩
    · exact Or.inr ⟨c, h1, .step h2 hb⟩
theorem tie_self {n : Int} {E : List T} (h : OK n E) {t : T} (ht : t ∈ E) : tie t.f0 t.f1 = t := by
  have := h.tie t ht
  unfold tie
  rw [if_pos (by omega)]
theorem has_of_mem {n : Int} {E : List T} (h : OK n E) {t : T} (ht : t ∈ E) : Has E t.f0 t.f1 := by
  unfold Has; rw [tie_self h ht]; exact ht
/-- The two knots of a tie. -/
theorem tie_ends {a b : Int} {t : T} (e : tie a b = t) : (a = t.f0 ∧ b = t.f1) ∨ (a = t.f1 ∧ b = t.f0) := by
  unfold tie at e
  split at e <;> subst e
  · exact Or.inl ⟨rfl, rfl⟩
  · exact Or.inr ⟨rfl, rfl⟩
theorem tie_inj {a b c d : Int} (h : tie a b = tie c d) : (a = c ∧ b = d) ∨ (a = d ∧ b = c) := by
  unfold tie at h
  split at h <;> split at h <;> simp only [S52.mk.injEq] at h <;> omega
theorem OK.filter {n : Int} {E : List T} (h : OK n E) (p : T → Bool) : OK n (E.filter p) :=
  ⟨h.n0, h.n8, fun t ht => h.tie t (List.mem_filter.1 ht).1, h.asc.filter p⟩
theorem OK.nil {n : Int} (h0 : 0 ≤ n) (h8 : n ≤ 8) : OK n [] := ⟨h0, h8, by simp, List.Pairwise.nil⟩
/-- A net without some ties. -/
noncomputable def less (E : List T) (p : T → Prop) : List T := E.filter (fun t => !dec (p t))
theorem mem_less {E : List T} {p : T → Prop} {t : T} : t ∈ less E p ↔ t ∈ E ∧ ¬ p t := by
  unfold less
  rw [List.mem_filter]
  by_cases h : p t
  · rw [dec_t h]; simp [h]
  · rw [dec_f h]; simp [h]
theorem OK.less {n : Int} {E : List T} (h : OK n E) (p : T → Prop) : OK n (less E p) := h.filter _
theorem less_congr {E : List T} {p q : T → Prop} (h : ∀ t ∈ E, p t ↔ q t) : less E p = less E q := by
  unfold less
  refine List.filter_congr (fun t ht => ?_)
  rw [dec_congr (h t ht)]
/-- Without the ties of a knot. -/
abbrev AtK (k : Int) (t : T) : Prop := t.f0 = k ∨ t.f1 = k
/-- The ties that a knot does not have. -/
noncomputable abbrev lessK (E : List T) (k : Int) : List T := less E (AtK k)
theorem less_cons_pos {t : T} {E : List T} {p : T → Prop} (h : p t) : less (t :: E) p = less E p := by
  unfold less
  rw [List.filter_cons_of_neg (p := fun t => !dec (p t)) (by rw [dec_t h]; simp)]
theorem less_cons_neg {t : T} {E : List T} {p : T → Prop} (h : ¬ p t) : less (t :: E) p = t :: less E p := by
  unfold less
  rw [List.filter_cons_of_pos (p := fun t => !dec (p t)) (by rw [dec_f h]; rfl)]
noncomputable def rep (E : List T) (i : Int) : Int := ((ks (i + 1)).find? (fun j => dec (Conn E j i))).getD 0
theorem rep_spec (E : List T) {i : Int} (h : 0 ≤ i) : Conn E (rep E i) i ∧ 0 ≤ rep E i ∧ rep E i ≤ i ∧ ∀ j, 0 ≤ j → Conn E j i → rep E i ≤ j := by
  unfold rep
  cases e : (ks (i + 1)).find? (fun j => dec (Conn E j i)) with
  | none =>
    rw [List.find?_eq_none] at e
    exact absurd (dec_t (Conn.refl i)) (by have := e i (mem_ks.2 (by omega)); simpa using this)
  | some x =>
    obtain ⟨h1, l1, l2, h2, h3⟩ := List.find?_eq_some_iff_append.1 e
    have hx : x ∈ ks (i + 1) := by rw [h2]; simp
    have hx' := mem_ks.1 hx
    refine ⟨dec_iff.1 h1, hx'.1, by simp only [Option.getD_some]; omega, fun j hj hc => ?_⟩
    simp only [Option.getD_some]
    by_cases hji : j ≤ i
    · have hj' : j ∈ ks (i + 1) := mem_ks.2 (by omega)
      have hp := ks_pairwise (i + 1)
      rw [h2] at hj' hp
      rcases List.mem_append.1 hj' with m | m
      · have := h3 j m
        rw [dec_t hc] at this
        exact absurd this (by simp)
      · rcases List.mem_cons.1 m with rfl | m
        · exact Int.le_refl _
        · have := (List.pairwise_cons.1 (List.pairwise_append.1 hp).2.1).1 j m
          omega
    · omega
theorem rep_conn (E : List T) {i : Int} (h : 0 ≤ i) : Conn E (rep E i) i := (rep_spec E h).1
theorem rep_nonneg (E : List T) {i : Int} (h : 0 ≤ i) : 0 ≤ rep E i := (rep_spec E h).2.1
theorem rep_least (E : List T) {i : Int} (h : 0 ≤ i) {j : Int} (hj : 0 ≤ j) (hc : Conn E j i) : rep E i ≤ j := (rep_spec E h).2.2.2 j hj hc
theorem rep_unique (E : List T) {i x : Int} (h : 0 ≤ i) (hx : 0 ≤ x) (hc : Conn E x i) (hl : ∀ j, 0 ≤ j → Conn E j i → x ≤ j) : rep E i = x := by
  have h1 := rep_least E h hx hc
  have h2 := hl _ (rep_nonneg E h) (rep_conn E h)
  omega
/-- The labels of all knots; where one leads; how many parts there are. -/
noncomputable def partsL (n : Int) (E : List T) : List Int := (ks n).map (rep E)
noncomputable def reachL (n : Int) (E : List T) (a : Int) : List Bool := (ks n).map (fun b => dec (Conn E a b))
end Go.Proofs.Ytffflhmblelegaa.Th
namespace Go.Proofs.Ytffflhmblelegaa.Th
open Go.RowKit Go.Proofs.YtffflhmblelegaaW.PrintWords Go.Proofs.YtffflhmblelegaaW.PrintMore Go.Proofs.Ytffflhmblelegaa.F
def Walk (R : Int → Int → Prop) : List Int → Prop
  | [] => True
  | [_] => True
  | a :: b :: l => R a b ∧ Walk R (b :: l)
/-- A way of a net. -/
structure IsWay (n : Int) (E : List T) (w : List Int) : Prop where
  ne : w ≠ []
  inn : ∀ v ∈ w, In n v
  nd : w.Nodup
  walk : Walk (Has E) w
/-- A way from one knot to another one, of a valid net. -/
def Leads (n : Int) (E : List T) (a b : Int) (w : List Int) : Prop := OK n E ∧ IsWay n E w ∧ rd w 0 = a ∧ rd w ((w.length : Int) - 1) = b
theorem Leads.pos {n : Int} {E : List T} {a b : Int} {w : List Int} (h : Leads n E a b w) : 0 < w.length := List.length_pos_iff.2 h.2.1.ne
theorem Leads.two {n : Int} {E : List T} {a b : Int} {w : List Int} (h : Leads n E a b w) (hab : a ≠ b) : 2 ≤ w.length := by
  have h0 := h.pos
  by_cases h1 : w.length = 1
  · exact absurd (by rw [← h.2.2.1, ← h.2.2.2, h1]; rfl) hab
  · omega
end Go.Proofs.Ytffflhmblelegaa.Th
namespace Go.Proofs.Ytffflhmblelegaa.Th
open Go.RowKit Go.Proofs.YtffflhmblelegaaW.PrintWords Go.Proofs.YtffflhmblelegaaW.PrintLast Go.Proofs.YtffflhmblelegaaW.PrintMore Go.Proofs.Ytffflhmblelegaa.F
theorem walk_cons (R : Int → Int → Prop) (a b : Int) (l : List Int) : Walk R (a :: b :: l) ↔ R a b ∧ Walk R (b :: l) := Iff.rfl
theorem walk_app (R : Int → Int → Prop) : ∀ (A : List Int) (k : Int) (B : List Int), Walk R (A ++ k :: B) ↔ Walk R (A ++ [k]) ∧ Walk R (k :: B)
  | [], k, B => by simp [Walk]
  | [a], k, B => by simp [Walk]
  | a :: b :: A, k, B => by
    have := walk_app R (b :: A) k B
    simp only [List.cons_append, walk_cons] at this ⊢
    rw [this, and_assoc]
theorem walk_mono {R S : Int → Int → Prop} (h : ∀ a b, R a b → S a b) : ∀ w : List Int, Walk R w → Walk S w
  | [], _ => trivial
  | [_], _ => trivial
  | _ :: b :: l, k => ⟨h _ _ k.1, walk_mono h (b :: l) k.2⟩
theorem walk_rev {R : Int → Int → Prop} (hs : ∀ a b, R a b → R b a) : ∀ w : List Int, Walk R w → Walk R w.reverse
  | [], _ => trivial
  | [_], _ => trivial
  | a :: b :: l, k => by
    have ih := walk_rev hs (b :: l) k.2
    rw [List.reverse_cons] at ih ⊢
    rw [List.reverse_cons, List.append_assoc, List.singleton_append]
    exact (walk_app R _ _ _).2 ⟨ih, hs _ _ k.1, trivial⟩
/-- The ties of a row of knots. -/
def es : List Int → List T
  | [] => []
  | [_] => []
  | a :: b :: l => tie a b :: es (b :: l)
theorem es_app : ∀ (A : List Int) (k : Int) (B : List Int), es (A ++ k :: B) = es (A ++ [k]) ++ es (k :: B)
  | [], k, B => by simp [es]
  | [a], k, B => by simp [es]
  | a :: b :: A, k, B => by
    have := es_app (b :: A) k B
    simp only [List.cons_append, es] at this ⊢
    rw [this]
theorem mem_es_rev : ∀ (w : List Int) (t : T), t ∈ es w.reverse ↔ t ∈ es w
  | [], t => by simp
  | [_], t => by simp
  | a :: b :: l, t => by
    have ih := mem_es_rev (b :: l) t
    rw [List.reverse_cons] at ih ⊢
    rw [List.reverse_cons, List.append_assoc, List.singleton_append, es_app, List.mem_append, ih]
    simp only [es, List.mem_cons, List.not_mem_nil, or_false]
    rw [tie_comm b a]
    exact Or.comm
theorem mem_es {t : T} : ∀ {w : List Int}, t ∈ es w → ∃ A k x B, w = A ++ k :: x :: B ∧ tie k x = t
  | [], h => by simp [es] at h
  | [_], h => by simp [es] at h
  | a :: b :: l, h => by
    simp only [es, List.mem_cons] at h
    rcases h with h | h
    · exact ⟨[], a, b, l, rfl, h.symm⟩
    · obtain ⟨A, k, x, B, e, ht⟩ := mem_es (w := b :: l) h
      exact ⟨a :: A, k, x, B, by rw [e]; rfl, ht⟩
theorem walk_es {E : List T} : ∀ {w : List Int}, Walk (Has E) w ↔ ∀ t ∈ es w, t ∈ E
  | [] => by simp [Walk, es]
  | [_] => by simp [Walk, es]
  | a :: b :: l => by
    rw [walk_cons, walk_es (w := b :: l)]
    simp only [es, List.mem_cons, forall_eq_or_imp]
    exact Iff.rfl
/-- A path: different knots, each tied to the next. -/
structure Path (E : List T) (a b : Int) (w : List Int) : Prop where
  nd : w.Nodup
  walk : Walk (Has E) w
  hd : w.head? = some a
  lst : w.getLast? = some b
theorem Path.mono {E F : List T} (h : ∀ t, t ∈ E → t ∈ F) {a b : Int} {w : List Int} (p : Path E a b w) : Path F a b w := ⟨p.nd, walk_mono (fun _ _ k => h _ k) w p.walk, p.hd, p.lst⟩
theorem Path.rev {E : List T} {a b : Int} {w : List Int} (p : Path E a b w) : Path E b a w.reverse :=
  ⟨List.pairwise_reverse.2 (p.nd.imp fun h => h.symm), walk_rev (fun _ _ k => k.symm) _ p.walk, by rw [List.head?_reverse]; exact p.lst, by rw [List.getLast?_reverse]; exact p.hd⟩
theorem Path.ne {E : List T} {a b : Int} {w : List Int} (p : Path E a b w) : w ≠ [] := by
  rintro rfl; have := p.hd; simp at this
theorem Path.memA {E : List T} {a b : Int} {w : List Int} (p : Path E a b w) : a ∈ w := List.mem_of_mem_head? (by rw [p.hd]; rfl)
theorem Path.memB {E : List T} {a b : Int} {w : List Int} (p : Path E a b w) : b ∈ w := List.mem_of_getLast? p.lst
theorem Path.single (E : List T) (a : Int) : Path E a a [a] := ⟨by simp, trivial, rfl, rfl⟩
/-- A path's head stands by itself. -/
theorem Path.cons_eq {E : List T} {a b : Int} {w : List Int} (p : Path E a b w) : ∃ r, w = a :: r := by
  cases w with
  | nil => exact absurd rfl p.ne
  | cons x r => have := p.hd; simp at this; exact ⟨r, by rw [this]⟩
/-- The way on from a knot of it. -/
theorem Path.drop {E : List T} {a b k : Int} {A B : List Int} (p : Path E a b (A ++ k :: B)) : Path E k b (k :: B) :=
  ⟨(List.nodup_append.1 p.nd).2.1, ((walk_app _ _ _ _).1 p.walk).2, rfl, by have := p.lst; rw [List.getLast?_append] at this; simpa using this⟩
theorem Path.take {E : List T} {a b k : Int} {A B : List Int} (p : Path E a b (A ++ k :: B)) : Path E a k (A ++ [k]) := by
  refine ⟨?_, ((walk_app _ _ _ _).1 p.walk).1, ?_, by simp⟩
  · have := p.nd
    rw [List.nodup_append] at this ⊢
    refine ⟨this.1, by simp, fun x hx y hy => ?_⟩
    simp only [List.mem_singleton] at hy
    subst hy
    exact this.2.2 x hx y (by simp)
  · have := p.hd
    cases A <;> simpa using this
/-- A knot ahead. -/
theorem Path.consP {E : List T} {k a b : Int} {w : List Int} (p : Path E a b w) (h : Has E k a) (hk : k ∉ w) : Path E k b (k :: w) := by
  obtain ⟨r, rfl⟩ := p.cons_eq
  exact ⟨List.nodup_cons.2 ⟨hk, p.nd⟩, ⟨h, p.walk⟩, rfl, by have := p.lst; simpa using this⟩
/-- Two paths that have one knot alone in common, put together. -/
theorem Path.append {E : List T} {a k b : Int} {A B : List Int} (p : Path E a k (A ++ [k])) (q : Path E k b (k :: B)) (h : ∀ x ∈ A, x ∉ B) : Path E a b (A ++ k :: B) := by
  refine ⟨?_, (walk_app _ _ _ _).2 ⟨p.walk, q.walk⟩, ?_, ?_⟩
  · rw [List.nodup_append]
    have hp := List.nodup_append.1 p.nd
    refine ⟨hp.1, q.nd, fun x hx y hy e => ?_⟩
    subst e
    rcases List.mem_cons.1 hy with rfl | hy
    · exact hp.2.2 x hx x (by simp) rfl
    · exact h x hx hy
  · have := p.hd
    cases A <;> simpa using this
  · have := q.lst
    rw [List.getLast?_append]
    simpa using this
theorem Path.conn {E : List T} : ∀ {w : List Int} {a b : Int}, Path E a b w → Conn E a b
  | [], a, b, p => absurd rfl p.ne
  | [x], a, b, p => by
    have h := p.hd; have l := p.lst
    simp at h l
    subst h; subst l
    exact .refl _
  | x :: y :: r, a, b, p => by
    have h := p.hd
    simp at h
    subst h
    have q : Path E y b (y :: r) := Path.drop (A := [x]) p
    exact (Conn.one p.walk.1).trans q.conn
theorem Path.conn_mem {E : List T} {w : List Int} {a b : Int} (p : Path E a b w) {x : Int} (hx : x ∈ w) : Conn E a x := by
  obtain ⟨A, B, rfl⟩ := List.append_of_mem hx
  exact p.take.conn
/-- What is come to is come to by a path. -/
theorem Conn.path {E : List T} {a b : Int} (h : Conn E a b) : ∃ w, Path E a b w := by
  induction h with
  | refl => exact ⟨_, Path.single _ _⟩
  | step _ m ih =>
    rename_i c d _
    obtain ⟨w, p⟩ := ih
    by_cases hd : d ∈ w
    · obtain ⟨A, B, rfl⟩ := List.append_of_mem hd
      exact ⟨_, p.take⟩
    · have := (p.rev.consP m.symm (by simpa using hd)).rev
      exact ⟨_, this⟩
/-- A path keeps off a knot that is none of its own. -/
theorem Path.off {E : List T} {a b v : Int} {w : List Int} (p : Path E a b w) (hv : v ∉ w) : Path (lessK E v) a b w := by
  refine ⟨p.nd, walk_es.2 (fun t ht => mem_less.2 ⟨walk_es.1 p.walk t ht, fun hk => ?_⟩), p.hd, p.lst⟩
  obtain ⟨A, k, x, B, rfl, rfl⟩ := mem_es ht
  have h1 : k ∈ A ++ k :: x :: B := by simp
  have h2 : x ∈ A ++ k :: x :: B := by simp
  rcases tie_ends (rfl : tie k x = tie k x) with ⟨e1, e2⟩ | ⟨e1, e2⟩ <;> rcases hk with hk | hk
  · exact hv (by rw [← hk, ← e1]; exact h1)
  · exact hv (by rw [← hk, ← e2]; exact h2)
  · exact hv (by rw [← hk, ← e2]; exact h2)
  · exact hv (by rw [← hk, ← e1]; exact h1)
/-- A path of a net without a knot: it is none of its knots, but as the start. -/
theorem not_mem_off {E : List T} {a b v : Int} {w : List Int} (p : Path (lessK E v) a b w) (ha : a ≠ v) : v ∉ w := by
  intro hv
  have hc := p.conn_mem hv
  rcases hc.symm.first with e | ⟨c, h, _⟩
  · exact ha e.symm
  · have := (mem_less.1 h).2
    refine this ?_
    rcases tie_ends (rfl : tie v c = tie v c) with ⟨e1, _⟩ | ⟨e1, _⟩
    · exact Or.inl e1.symm
    · exact Or.inr e1.symm
theorem conn_off_ne {E : List T} {a b v : Int} (h : Conn (lessK E v) a b) (ha : a ≠ v) : b ≠ v := by
  rintro rfl
  obtain ⟨w, p⟩ := h.path
  exact not_mem_off p ha p.memB
def On (t : T) (x : Int) : Prop := x = t.f0 ∨ x = t.f1
theorem on_tie {a b x : Int} : On (tie a b) x ↔ x = a ∨ x = b := by
  unfold On tie
  split
  · exact Iff.rfl
  · exact Or.comm
/-- No knot parts them. -/
def Bl (E : List T) (s t : T) : Prop := ∀ v, ∃ x y, On s x ∧ x ≠ v ∧ On t y ∧ y ≠ v ∧ Conn (lessK E v) x y
/-- Two ends of a tie hang together without a knot that is none of them. -/
theorem on_conn {n : Int} {E : List T} (h : OK n E) {t : T} (ht : t ∈ E) {v x y : Int} (hx : On t x) (hxv : x ≠ v) (hy : On t y) (hyv : y ≠ v) : Conn (lessK E v) x y := by
  by_cases e : x = y
  · subst e; exact .refl _
  · have hm : t ∈ lessK E v := by
      refine mem_less.2 ⟨ht, fun k => ?_⟩
      rcases hx with rfl | rfl <;> rcases hy with rfl | rfl <;> rcases k with k | k <;> first | exact e rfl | exact hxv k | exact hyv k
    have hh := has_of_mem (h.less (AtK v)) hm
    rcases hx with rfl | rfl <;> rcases hy with rfl | rfl
    · exact .refl _
    · exact .one hh
    · exact .one hh.symm
    · exact .refl _
theorem Bl.symm {E : List T} {s t : T} (h : Bl E s t) : Bl E t s := fun v => by
  obtain ⟨x, y, a, b, c, d, e⟩ := h v
  exact ⟨y, x, c, d, a, b, e.symm⟩
theorem Bl.refl {n : Int} {E : List T} (h : OK n E) {t : T} (ht : t ∈ E) : Bl E t t := fun v => by
  have := h.tie t ht
  by_cases e : t.f0 = v
  · exact ⟨t.f1, t.f1, Or.inr rfl, by omega, Or.inr rfl, by omega, .refl _⟩
  · exact ⟨t.f0, t.f0, Or.inl rfl, e, Or.inl rfl, e, .refl _⟩
theorem Bl.trans {n : Int} {E : List T} (h : OK n E) {s t u : T} (ht : t ∈ E) (p : Bl E s t) (q : Bl E t u) : Bl E s u := fun v => by
  obtain ⟨x, y, a, b, c, d, e⟩ := p v
  obtain ⟨x', y', a', b', c', d', e'⟩ := q v
  exact ⟨x, y', a, b, c', d', (e.trans (on_conn h ht c d a' b')).trans e'⟩
/-- Two ties that meet, and hang together without the knot where they meet. -/
def Side (E : List T) (s t : T) : Prop := ∃ k x y, s = tie k x ∧ t = tie k y ∧ x ≠ k ∧ y ≠ k ∧ Conn (lessK E k) x y
theorem Side.symm {E : List T} {s t : T} (h : Side E s t) : Side E t s := by
  obtain ⟨k, x, y, a, b, c, d, e⟩ := h
  exact ⟨k, y, x, b, a, d, c, e.symm⟩
theorem Side.bl {E : List T} {s t : T} (h : Side E s t) : Bl E s t := fun v => by
  obtain ⟨k, x, y, rfl, rfl, c, d, e⟩ := h
  by_cases hv : k = v
  · subst hv
    exact ⟨x, y, on_tie.2 (Or.inr rfl), c, on_tie.2 (Or.inr rfl), d, e⟩
  · exact ⟨k, k, on_tie.2 (Or.inl rfl), hv, on_tie.2 (Or.inl rfl), hv, .refl _⟩
/-- Steps from tie to tie. -/
inductive Chain (E : List T) (s : T) : T → Prop
  | refl : Chain E s s
  | step {t u : T} : Chain E s t → u ∈ E → Side E t u → Chain E s u
theorem Chain.mem {E : List T} {s t : T} (h : Chain E s t) (hs : s ∈ E) : t ∈ E := by
  cases h with
  | refl => exact hs
  | step _ h _ => exact h
theorem Chain.bl {n : Int} {E : List T} (h : OK n E) {s t : T} (hs : s ∈ E) (c : Chain E s t) : Bl E s t := by
  induction c with
  | refl => exact Bl.refl h hs
  | step c _ k ih => exact ih.trans h (c.mem hs) k.bl
/-- From a tie of one block with t, along a path, to t. 'pre': how the path came so far. -/
theorem chain_path {n : Int} {E : List T} (h : OK n E) {s t : T} (hs : s ∈ E) (ht : t ∈ E) (hb : Bl E s t) {y : Int} (hy : On t y) :
    ∀ (B A : List Int) (k p x0 : Int) (e : T), Path E x0 y (A ++ k :: B) → On s x0 → Chain E s e → e = tie k p → p ≠ k → (∀ x, On s x → x ≠ k → Conn (lessK E k) x p) → Chain E s t
  | [], A, k, p, x0, e, P, hx0, hc, he, hp, hpre => by
    have hk : k = y := by have := P.lst; simpa using this
    subst hk
    -- t itself is the last one
    obtain ⟨q, hq, hqk⟩ : ∃ q, t = tie k q ∧ q ≠ k := by
      have := h.tie t ht
      rcases hy with e | e
      · exact ⟨t.f1, by rw [e, tie_self h ht], by omega⟩
      · exact ⟨t.f0, by rw [e, tie_comm, tie_self h ht], by omega⟩
    obtain ⟨x', y', a, b, c, d, f⟩ := hb k
    have hyq : y' = q := by
      rw [hq] at c
      rcases on_tie.1 c with c | c
      · exact absurd c d
      · exact c
    subst hyq
    exact .step hc ht ⟨k, p, y', he, hq, hp, hqk, (hpre x' a b).symm.trans f⟩
  | q :: B, A, k, p, x0, e, P, hx0, hc, he, hp, hpre => by
    have hw := P.walk
    have hkq : Has E k q := ((walk_app _ _ _ _).1 hw).2.1
    have hne := h.has hkq
    have P' : Path E x0 y ((A ++ [k]) ++ q :: B) := by simpa using P
    -- behind k the path leads on to t
    have hpost : Path (lessK E k) q y (q :: B) := P'.drop.off (by
      have := (List.nodup_append.1 P.nd).2.1
      exact (List.nodup_cons.1 this).1)
    obtain ⟨x', y', a, b, c, d, f⟩ := hb k
    have hyk : y ≠ k := conn_off_ne hpost.conn hne.2.2.symm
    have hq' : Conn (lessK E k) y' q := (on_conn h ht c d hy hyk).trans hpost.conn.symm
    have hside : Side E e (tie k q) := ⟨k, p, q, he, rfl, hp, hne.2.2.symm, (hpre x' a b).symm.trans (f.trans hq')⟩
    refine chain_path h hs ht hb hy B (A ++ [k]) q k x0 (tie k q) P' hx0 (.step hc hkq hside) (tie_comm _ _) hne.2.2 (fun x hx hxq => ?_)
    -- ahead of q the path comes from s
    have hpre2 : Path (lessK E q) x0 k (A ++ [k]) := P.take.off (by
      have := P'.nd
      rw [List.nodup_append] at this
      exact fun m => this.2.2 q m q (by simp) rfl)
    have hx0q : x0 ≠ q := fun e => by
      have h1 := hpre2.memA
      have := P'.nd
      rw [List.nodup_append] at this
      exact this.2.2 x0 h1 q (by simp) e
    exact (on_conn h hs hx hxq hx0 hx0q).trans hpre2.conn
theorem Bl.chain {n : Int} {E : List T} (h : OK n E) {s t : T} (hs : s ∈ E) (ht : t ∈ E) (hb : Bl E s t) : Chain E s t := by
  obtain ⟨x, y, hx, _, hy, _, hc⟩ := hb (-1)
  obtain ⟨w, P⟩ := (hc.mono fun t ht => (mem_less.1 ht).1).path
  obtain ⟨r, rfl⟩ := P.cons_eq
  obtain ⟨p, hp, hpx⟩ : ∃ p, s = tie x p ∧ p ≠ x := by
    have := h.tie s hs
    rcases hx with e | e
    · exact ⟨s.f1, by rw [e, tie_self h hs], by omega⟩
    · exact ⟨s.f0, by rw [e, tie_comm, tie_self h hs], by omega⟩
  refine chain_path h hs ht hb hy r [] x p x s P hx .refl hp hpx (fun x' hx' hne => ?_)
  rw [hp] at hx'
  rcases on_tie.1 hx' with e | e
  · exact absurd e hne
  · subst e; exact .refl _
/-- s is t, or a path leads over s from one end of t to the other, without t. -/
def CC (E : List T) (t s : T) : Prop := s = t ∨ ∃ w, Path (less E (· = t)) t.f0 t.f1 w ∧ s ∈ es w
theorem mem_of_es {E : List T} {a b : Int} {w : List Int} {s : T} (p : Path E a b w) (h : s ∈ es w) : s ∈ E := walk_es.1 p.walk s h
theorem CC.mem {E : List T} {s t : T} (h : CC E t s) (ht : t ∈ E) : s ∈ E := by
  rcases h with rfl | ⟨w, p, hs⟩
  · exact ht
  · exact (mem_less.1 (mem_of_es p hs)).1
/-- A path's knots but one hang together with the path's ends that stay. -/
theorem CC.bl {n : Int} {E : List T} (h : OK n E) {s t : T} (ht : t ∈ E) (c : CC E t s) : Bl E t s := by
  rcases c with rfl | ⟨w, p, hs⟩
  · exact Bl.refl h ht
  intro v
  have hte := h.tie t ht
  have pE : Path E t.f0 t.f1 w := p.mono fun _ hm => (mem_less.1 hm).1
  obtain ⟨A, k, x, B, rfl, rfl⟩ := mem_es hs
  have hnd := pE.nd
  by_cases hv : v ∈ A ++ k :: x :: B
  · -- v on it: ahead of the tie, on it, behind it
    have hnd' := List.nodup_append.1 hnd
    by_cases hA : v ∈ A ++ [k]
    · -- x and all behind it are free of v
      have hxB : v ∉ x :: B := fun m => by
        have h2 : ((A ++ [k]) ++ x :: B).Nodup := by simpa using hnd
        exact (List.nodup_append.1 h2).2.2 v hA v m rfl
      have q : Path E x t.f1 (x :: B) := Path.drop (A := A ++ [k]) (by simpa using pE)
      have q' := q.off hxB
      have hxv : x ≠ v := fun e => hxB (by rw [← e]; simp)
      exact ⟨t.f1, x, Or.inr rfl, conn_off_ne q'.conn hxv, on_tie.2 (Or.inr rfl), hxv, q'.conn.symm⟩
    · have q : Path E t.f0 k (A ++ [k]) := pE.take
      have q' := q.off hA
      have hkv : k ≠ v := fun e => hA (by rw [← e]; simp)
      have h0 : t.f0 ≠ v := fun e => hA (by rw [← e]; exact q.memA)
      exact ⟨t.f0, k, Or.inl rfl, h0, on_tie.2 (Or.inl rfl), hkv, q'.conn⟩
  · have q' := pE.off hv
    have h0 : t.f0 ≠ v := fun e => hv (by rw [← e]; exact pE.memA)
    exact ⟨t.f0, k, Or.inl rfl, h0, on_tie.2 (Or.inl rfl), fun e => hv (by rw [← e]; simp), q'.conn_mem (by simp)⟩
/-- The first knot of a row that is one of some. -/
theorem first_in (S : List Int) : ∀ w : List Int, (∃ x ∈ w, x ∈ S) → ∃ A z B, w = A ++ z :: B ∧ z ∈ S ∧ ∀ x ∈ A, x ∉ S
  | [], h => by simp at h
  | a :: l, h => by
    by_cases ha : a ∈ S
    · exact ⟨[], a, l, rfl, ha, by simp⟩
    · obtain ⟨A, z, B, e, hz, hA⟩ := first_in S l (by
        obtain ⟨x, hx, hs⟩ := h
        rcases List.mem_cons.1 hx with rfl | hx
        · exact absurd hs ha
        · exact ⟨x, hx, hs⟩)
      refine ⟨a :: A, z, B, by rw [e]; rfl, hz, fun x hx => ?_⟩
      rcases List.mem_cons.1 hx with rfl | hx
      · exact ha
      · exact hA x hx
/-- Two knots of a row, in their order. -/
theorem two_in {w : List Int} {k z : Int} (hk : k ∈ w) (hz : z ∈ w) (hne : k ≠ z) : (∃ A M C, w = A ++ k :: (M ++ z :: C)) ∨ ∃ A M C, w = A ++ z :: (M ++ k :: C) := by
  obtain ⟨A, B, rfl⟩ := List.append_of_mem hk
  rcases List.mem_append.1 hz with h | h
  · obtain ⟨A1, A2, rfl⟩ := List.append_of_mem h
    exact Or.inr ⟨A1, A2, B, by simp⟩
  · rcases List.mem_cons.1 h with h | h
    · exact absurd h.symm hne
    · obtain ⟨B1, B2, rfl⟩ := List.append_of_mem h
      exact Or.inl ⟨A, B1, B2, rfl⟩
/-- An ear takes the place of what lies between its ends. -/
theorem ear {F : List T} {a b k z : Int} {A M C Q : List Int} (p : Path F a b (A ++ k :: (M ++ z :: C))) (q : Path F k z (k :: (Q ++ [z]))) (hQ : ∀ x ∈ Q, x ∉ A ++ k :: (M ++ z :: C)) : Path F a b (A ++ k :: (Q ++ z :: C)) := by
  have p1 : Path F a k (A ++ [k]) := p.take
  have p2 : Path F z b (z :: C) := Path.drop (A := A ++ k :: M) (by simpa using p)
  have q2 : Path F k b (k :: (Q ++ z :: C)) := by
    have := Path.append (A := k :: Q) (B := C) (by simpa using q) p2 (fun x hx hc => by
      rcases List.mem_cons.1 hx with rfl | hx
      · have := (List.nodup_cons.1 (List.nodup_append.1 p.nd).2.1).1
        exact this (by simp [hc])
      · exact hQ x hx (by simp [hc]))
    simpa using this
  refine p1.append q2 (fun x hx hm => ?_)
  rcases List.mem_append.1 hm with h | h
  · exact hQ x h (by simp [hx])
  · exact (List.nodup_append.1 p.nd).2.2 x hx x (by
      rcases List.mem_cons.1 h with rfl | h <;> simp [*]) rfl
theorem CC.step {n : Int} {E : List T} (h : OK n E) {t e f : T} (ht : t ∈ E) (c : CC E t e) (hf : f ∈ E) (hs : Side E e f) : CC E t f := by
  by_cases hft : f = t
  · exact Or.inl hft
  obtain ⟨k, x, y, rfl, rfl, hx, hy, hc⟩ := hs
  obtain ⟨q, Q⟩ := hc.symm.path
  have hkq : k ∉ q := not_mem_off Q hy
  have hte := h.tie t ht
  have hfF : Has (less E (· = t)) k y := mem_less.2 ⟨hf, hft⟩
  rcases c with e | ⟨w, P, he⟩
  · -- the tie itself: the ring is closed by it
    have QF : Path (less E (· = t)) y x q := Q.mono (fun u hu => mem_less.2 ⟨(mem_less.1 hu).1, fun e' => (mem_less.1 hu).2 (by
      rcases tie_ends e with ⟨a, _⟩ | ⟨a, _⟩
      · exact Or.inl (by rw [e', ← a])
      · exact Or.inr (by rw [e', ← a]))⟩)
    have P := QF.consP hfF hkq
    have hm : tie k y ∈ es (k :: q) := by
      obtain ⟨r, rfl⟩ := Q.cons_eq
      simp [es]
    rcases tie_ends e with ⟨a, b⟩ | ⟨a, b⟩
    · exact Or.inr ⟨_, by rw [← a, ← b]; exact P, hm⟩
    · exact Or.inr ⟨_, by rw [← a, ← b]; exact P.rev, (mem_es_rev _ _).2 hm⟩
  · have hkw : k ∈ w := by
      obtain ⟨A, k', x', B, rfl, e'⟩ := mem_es he
      rcases tie_inj e' with ⟨a, _⟩ | ⟨_, b⟩
      · rw [← a]; simp
      · rw [← b]; simp
    have hxw : x ∈ w := by
      obtain ⟨A, k', x', B, rfl, e'⟩ := mem_es he
      rcases tie_inj e' with ⟨_, b⟩ | ⟨a, _⟩
      · rw [← b]; simp
      · rw [← a]; simp
    obtain ⟨Q1, z, Q2, rfl, hz, hQ1⟩ := first_in w q ⟨x, Q.memB, hxw⟩
    have hkz : k ≠ z := fun e' => hkq (by rw [e']; simp)
    have Q' : Path (lessK E k) y z (Q1 ++ [z]) := Q.take
    -- none of its ties is t: one end of each but the first is off the path; and the first is f
    have QF : Path (less E (· = t)) y z (Q1 ++ [z]) := by
      refine ⟨Q'.nd, walk_es.2 (fun u hu => mem_less.2 ⟨(mem_less.1 (mem_of_es Q' hu)).1, fun e' => ?_⟩), Q'.hd, Q'.lst⟩
      subst e'
      obtain ⟨A, k', x', B, e2, e3⟩ := mem_es hu
      have hk' : k' ∈ Q1 := by
        have : Q1 = A ++ k' :: (x' :: B).dropLast := by
          have h1 := congrArg List.dropLast e2
          rw [List.dropLast_concat] at h1
          rw [h1, List.dropLast_append_of_ne_nil (by simp), List.dropLast_cons_of_ne_nil (by simp)]
        rw [this]; simp
      have hoff := hQ1 k' hk'
      rcases tie_ends e3 with ⟨a, _⟩ | ⟨a, _⟩
      · exact hoff (by rw [a]; exact P.memA)
      · exact hoff (by rw [a]; exact P.memB)
    have hkQ : k ∉ Q1 ++ [z] := not_mem_off Q' hy
    have QK : Path (less E (· = t)) k z (k :: (Q1 ++ [z])) := QF.consP hfF hkQ
    have hm : ∀ C : List Int, tie k y ∈ es (k :: (Q1 ++ z :: C)) := fun C => by
      have := Q'.hd
      cases Q1 with
      | nil => simp at this; subst this; simp [es]
      | cons a r => simp at this; subst this; simp [es]
    rcases two_in hkw hz hkz with ⟨A, M, C, rfl⟩ | ⟨A, M, C, rfl⟩
    · refine Or.inr ⟨_, ear P QK hQ1, ?_⟩
      rw [es_app]
      exact List.mem_append.2 (Or.inr (hm C))
    · have P' : Path (less E (· = t)) t.f1 t.f0 (C.reverse ++ k :: (M.reverse ++ z :: A.reverse)) := by
        have := P.rev
        simpa using this
      have R := ear P' QK (fun x hx hn => hQ1 x hx (by
        simp only [List.mem_append, List.mem_cons, List.mem_reverse] at hn ⊢
        rcases hn with a | a | a | a | a <;> simp [a]))
      refine Or.inr ⟨_, R.rev, (mem_es_rev _ _).2 ?_⟩
      rw [es_app]
      exact List.mem_append.2 (Or.inr (hm A.reverse))
/-- The three are one. -/
theorem cc_iff {n : Int} {E : List T} (h : OK n E) {s t : T} (ht : t ∈ E) (hs : s ∈ E) : CC E t s ↔ Bl E t s := by
  refine ⟨CC.bl h ht, fun hb => ?_⟩
  have hc := hb.chain h ht hs
  clear hb hs
  induction hc with
  | refl => exact Or.inl rfl
  | step c hu hside ih => exact ih.step h ht hu hside
theorem rd_head {w : List Int} (h : w ≠ []) : w.head? = some (rd w 0) := by
  cases w with
  | nil => exact absurd rfl h
  | cons a r => rfl
theorem rd_last {w : List Int} (h : w ≠ []) : w.getLast? = some (rd w ((w.length : Int) - 1)) := by
  have hp : 0 < w.length := List.length_pos_iff.2 h
  rw [show ((w.length : Int) - 1) = ((w.length - 1 : Nat) : Int) by omega, rd_getElem w (w.length - 1) (by omega), List.getLast?_eq_getElem?, List.getElem?_eq_getElem (by omega)]
theorem Path.inn {n : Int} {E : List T} (h : OK n E) {a b : Int} (ha : In n a) {w : List Int} (p : Path E a b w) {x : Int} (hx : x ∈ w) : In n x := (p.conn_mem hx).inNet h ha
theorem Leads.path {n : Int} {E : List T} {a b : Int} {w : List Int} (h : Leads n E a b w) : Path E a b w := by
  obtain ⟨_, ⟨h0, _, h2, h3⟩, h4, h5⟩ := h
  exact ⟨h2, h3, by rw [rd_head h0, h4], by rw [rd_last h0, h5]⟩
/-- A path has a first and a last tie. -/
theorem Path.ties {E : List T} {a b : Int} {w : List Int} (p : Path E a b w) (hab : a ≠ b) : (∃ s ∈ es w, On s a) ∧ ∃ t ∈ es w, On t b := by
  have fst : ∀ {a b : Int} {w : List Int}, Path E a b w → a ≠ b → ∃ s ∈ es w, On s a := fun {a b w} p hab => by
    obtain ⟨r, rfl⟩ := p.cons_eq
    cases r with
    | nil => have := p.lst; simp at this; exact absurd this hab
    | cons c r => exact ⟨tie a c, by simp [es], on_tie.2 (Or.inl rfl)⟩
  refine ⟨fst p hab, ?_⟩
  obtain ⟨t, h1, h2⟩ := fst p.rev hab.symm
  exact ⟨t, (mem_es_rev _ _).1 h1, h2⟩
end Go.Proofs.Ytffflhmblelegaa.Th
namespace Go.Proofs.Ytffflhmblelegaa.Th
open Go.RowKit Go.Proofs.YtffflhmblelegaaW.PrintWords Go.Proofs.YtffflhmblelegaaW.PrintLast Go.Proofs.YtffflhmblelegaaW.PrintMore Go.Proofs.Ytffflhmblelegaa.F Classical
noncomputable def blockL (E : List T) (t : T) : List T := E.filter (fun s => dec (Bl E t s))
/-- No tie of its block stands ahead. -/
def Fst (E : List T) (t : T) : Prop := ∀ s ∈ E, Bl E s t → ¬ lt s t
noncomputable def firstsL (E : List T) : List T := E.filter (fun t => dec (Fst E t))
noncomputable def blocksL (E : List T) : List (List T) := (firstsL E).map (blockL E)
theorem mem_blockL {E : List T} {s t : T} : s ∈ blockL E t ↔ s ∈ E ∧ Bl E t s := by
  unfold blockL
  rw [List.mem_filter, dec_iff]
theorem mem_firstsL {E : List T} {t : T} : t ∈ firstsL E ↔ t ∈ E ∧ Fst E t := by
  unfold firstsL
  rw [List.mem_filter, dec_iff]
theorem blockL_sub (E : List T) (t : T) : (blockL E t).Sublist E := List.filter_sublist
theorem OK.block {n : Int} {E : List T} (h : OK n E) (t : T) : OK n (blockL E t) := h.filter _
theorem blockL_length (E : List T) (t : T) : (blockL E t).length ≤ E.length := (blockL_sub E t).length_le
theorem blocksL_length (E : List T) : (blocksL E).length ≤ E.length := by
  unfold blocksL firstsL
  rw [List.length_map]
  exact List.length_filter_le _ _
theorem blockL_self {n : Int} {E : List T} (h : OK n E) {t : T} (ht : t ∈ E) : t ∈ blockL E t := mem_blockL.2 ⟨ht, Bl.refl h ht⟩
/-- Each tie's block has a first one. -/
theorem first_ex {n : Int} {E : List T} (h : OK n E) {t : T} (ht : t ∈ E) : ∃ f ∈ E, Fst E f ∧ Bl E f t := by
  have hm := blockL_self h ht
  cases e : blockL E t with
  | nil => rw [e] at hm; simp at hm
  | cons f r =>
    have hf := mem_blockL.1 (show f ∈ blockL E t by rw [e]; simp)
    refine ⟨f, hf.1, fun s hs hb hlt => ?_, hf.2.symm⟩
    have hs' : s ∈ blockL E t := mem_blockL.2 ⟨hs, hf.2.trans h hf.1 hb.symm⟩
    have ha : Asc (blockL E t) := (h.block t).asc
    unfold Asc at ha
    rw [e] at hs' ha
    rcases List.mem_cons.1 hs' with k | k
    · subst k; exact lt_irrefl _ hlt
    · exact lt_asymm hlt ((List.pairwise_cons.1 ha).1 s k)
theorem first_uniq {E : List T} {f g : T} (hf : f ∈ E) (hg : g ∈ E) (kf : Fst E f) (kg : Fst E g) (b : Bl E f g) : f = g := by
  rcases lt_tri f g with k | k | k
  · exact absurd k (kg f hf b)
  · exact k
  · exact absurd k (kf g hg b.symm)
end Go.Proofs.Ytffflhmblelegaa.Th
namespace Go.Proofs.Ytffflhmblelegaa.Th
open Go.RowKit Go.Proofs.YtffflhmblelegaaW.PrintWords Go.Proofs.YtffflhmblelegaaW.PrintLast Go.Proofs.YtffflhmblelegaaW.PrintMore Go.Proofs.Ytffflhmblelegaa.F
theorem ev_index_loop (E : List T) (s : T) (hE : E.length ≤ 1048576) : ∀ (d i : Nat), i + d = E.length → ∃ c : Int, Ev (fun k => slices_Index_impl_Tie_impl_Tie.l0 k E E.length i s.f0 s.f1) c ∧ (c ≥ 0 ↔ s ∈ E.drop i)
  | 0, i, h => by
    refine ⟨-1, Ev.succ ?_, ?_⟩
    · simp only [slices_Index_impl_Tie_impl_Tie.l0]
      exact Ev.neg (by omega) (Ev.now _)
    · rw [List.drop_of_length_le (by omega)]; simp
  | d + 1, i, h => by
    have hi : i < E.length := by omega
    by_cases e : s = E[i]
    · refine ⟨i, Ev.succ ?_, ?_⟩
      · simp only [slices_Index_impl_Tie_impl_Tie.l0, rd_T_nat E i hi]
        refine Ev.pos (by omega) (Ev.pos (by omega) (Ev.pos (by omega) (Ev.pos (by rw [e]; simp) (Ev.now _))))
      · rw [List.drop_eq_getElem_cons hi]
        exact ⟨fun _ => by rw [e]; exact List.mem_cons_self, fun _ => by omega⟩
    · obtain ⟨c, hc, hm⟩ := ev_index_loop E s hE d (i + 1) (by omega)
      refine ⟨c, Ev.succ ?_, ?_⟩
      · simp only [slices_Index_impl_Tie_impl_Tie.l0, rd_T_nat E i hi]
        refine Ev.pos (by omega) (Ev.pos (by omega) (Ev.pos (by omega) (Ev.neg (fun k => e ?_) ?_)))
        · simp only [Bool.and_eq_true, beq_iff_eq] at k
          exact T.ext k.1 k.2
        · rw [w64 (by omega)]
          exact hc
      · rw [List.drop_eq_getElem_cons hi, List.mem_cons, hm]
        exact ⟨Or.inr, fun k => k.resolve_left e⟩
theorem ev_contains (E : List T) (s : T) (hE : E.length ≤ 1048576) : Ev (fun k => slices_Contains_impl_Tie_impl_Tie.f k E s.f0 s.f1) (dec (s ∈ E)) := by
  obtain ⟨c, hc, hm⟩ := ev_index_loop E s hE E.length 0 (by omega)
  simp only [slices_Contains_impl_Tie_impl_Tie.f, slices_Index_impl_Tie_impl_Tie.f]
  refine Ev.bind hc (Ev.some_ (dec_of ?_))
  rw [decide_eq_true_iff, hm, List.drop_zero]
theorem impl_tie_eq (a b : Int) : impl_tie.f a b = some ((tie a b).f0, (tie a b).f1) := by
  unfold impl_tie.f tie mn mx
  by_cases h : a < b
  · rw [if_pos h, if_pos h, if_neg (by omega)]
  · rw [if_neg h, if_neg h]
    by_cases k : b < a
    · rw [if_pos k]
    · rw [if_neg k]
      have e : a = b := by omega
      subst e; rfl
theorem ev_has (n : Int) (E : List T) (a b : Int) (hE : E.length ≤ 1048576) : Ev (fun k => impl_Net_has.f k n E a b) (dec (Has E a b)) := by
  simp only [impl_Net_has.f]
  exact Ev.bind0 (impl_tie_eq a b) (Ev.bind (ev_contains E (tie a b) hE) (Ev.now _))
end Go.Proofs.Ytffflhmblelegaa.Th
namespace Go.Proofs.Ytffflhmblelegaa.Th
open Go.RowKit Go.Proofs.YtffflhmblelegaaW.PrintWords Go.Proofs.YtffflhmblelegaaW.PrintMore Go.Proofs.Ytffflhmblelegaa.F
theorem ev_indexInt_loop (l : List Int) (x : Int) (hl : l.length ≤ 1048576) : ∀ (d i : Nat), i + d = l.length → ∃ c : Int, Ev (fun k => slices_Index_int_int.l0 k l x l.length i) c ∧ (c ≥ 0 ↔ x ∈ l.drop i)
  | 0, i, h => by
    refine ⟨-1, Ev.succ ?_, ?_⟩
    · simp only [slices_Index_int_int.l0]
      exact Ev.neg (by omega) (Ev.now _)
    · rw [List.drop_of_length_le (by omega)]; simp
  | d + 1, i, h => by
    have hi : i < l.length := by omega
    by_cases e : x = l[i]
    · refine ⟨i, Ev.succ ?_, ?_⟩
      · simp only [slices_Index_int_int.l0, rd_getElem l i hi]
        exact Ev.pos (by omega) (Ev.pos (by omega) (Ev.pos (by omega) (Ev.pos e (Ev.now _))))
      · rw [List.drop_eq_getElem_cons hi]
        exact ⟨fun _ => by rw [e]; exact List.mem_cons_self, fun _ => by omega⟩
    · obtain ⟨c, hc, hm⟩ := ev_indexInt_loop l x hl d (i + 1) (by omega)
      refine ⟨c, Ev.succ ?_, ?_⟩
      · simp only [slices_Index_int_int.l0, rd_getElem l i hi]
        refine Ev.pos (by omega) (Ev.pos (by omega) (Ev.pos (by omega) (Ev.neg e ?_)))
        rw [w64 (by omega)]
        exact hc
      · rw [List.drop_eq_getElem_cons hi, List.mem_cons, hm]
        exact ⟨Or.inr, fun k => k.resolve_left e⟩
theorem ev_containsInt (l : List Int) (x : Int) (hl : l.length ≤ 1048576) : Ev (fun k => slices_Contains_int_int.f k l x) (dec (x ∈ l)) := by
  obtain ⟨c, hc, hm⟩ := ev_indexInt_loop l x hl l.length 0 (by omega)
  simp only [slices_Contains_int_int.f, slices_Index_int_int.f]
  refine Ev.bind hc (Ev.some_ (dec_of ?_))
  rw [decide_eq_true_iff, hm, List.drop_zero]
end Go.Proofs.Ytffflhmblelegaa.Th
namespace Go.Proofs.Ytffflhmblelegaa.Th
open Go.RowKit Go.Proofs.YtffflhmblelegaaW.PrintWords Go.Proofs.YtffflhmblelegaaW.PrintLast Go.Proofs.YtffflhmblelegaaW.PrintMore Go.Proofs.Ytffflhmblelegaa.F Classical
noncomputable def waysR (n : Int) (E : List T) (b : Int) : Nat → List Int → List (List Int)
  | 0, w => if rd w ((w.length : Int) - 1) = b then [w] else []
  | d + 1, w => if rd w ((w.length : Int) - 1) = b then [w] else (ks n).flatMap (fun k => if Has E (rd w ((w.length : Int) - 1)) k ∧ k ∉ w then waysR n E b d (w ++ [k]) else [])
theorem flatMap_length_le {α β : Type} (f : α → List β) (m : Nat) : ∀ l : List α, (∀ x ∈ l, (f x).length ≤ m) → (l.flatMap f).length ≤ l.length * m
  | [], _ => by simp
  | x :: l, h => by
    rw [List.flatMap_cons, List.length_append, List.length_cons, Nat.succ_mul]
    have := h x (by simp)
    have := flatMap_length_le f m l (fun y hy => h y (List.mem_cons_of_mem _ hy))
    omega
theorem waysR_length {n : Int} (hn : n ≤ 8) (E : List T) (b : Int) : ∀ (d : Nat) (w : List Int), (waysR n E b d w).length ≤ 8 ^ d := by
  intro d
  induction d with
  | zero => intro w; simp only [waysR]; split <;> simp
  | succ d ih =>
    intro w
    simp only [waysR]
    split
    · have : 1 ≤ 8 ^ (d + 1) := Nat.pos_of_ne_zero (by simp)
      simpa using this
    · have h1 := flatMap_length_le (fun k => if Has E (rd w ((w.length : Int) - 1)) k ∧ k ∉ w then waysR n E b d (w ++ [k]) else []) (8 ^ d) (ks n) (fun k _ => by
        split
        · exact ih _
        · simp)
      have h2 : (ks n).length ≤ 8 := by rw [ks_length]; omega
      have h3 : (ks n).length * 8 ^ d ≤ 8 * 8 ^ d := Nat.mul_le_mul_right _ h2
      rw [Nat.pow_succ]
      omega
theorem nodup_in_length {n : Int} {w : List Int} (hn : w.Nodup) (hi : ∀ x ∈ w, In n x) : w.length ≤ n.toNat := by
  have h := List.Nodup.length_le_of_subset hn (l₂ := ks n) (fun x hx => mem_ks.2 (hi x hx))
  rwa [ks_length] at h
theorem nodup_snoc {w : List Int} {k : Int} (hn : w.Nodup) (hk : k ∉ w) : (w ++ [k]).Nodup := by
  unfold List.Nodup at *
  rw [List.pairwise_append]
  exact ⟨hn, by simp, fun x hx y hy e => hk (by rw [List.mem_singleton] at hy; subst hy; subst e; exact hx)⟩
theorem ev_ways {n : Int} {E : List T} {b : Int} (h : OK n E) : ∀ (d : Nat) (w : List Int) (out : List (List Int)), w.Nodup → w ≠ [] → (∀ x ∈ w, In n x) → w.length + d = n.toNat → out.length + 8 ^ d ≤ 1000000000 →
    Ev (fun k => impl_Net_ways.f k n E w b out) (out ++ waysR n E b d w) := by
  have hE := h.length
  have h8 := h.n8
  intro d
  induction d with
  | zero =>
    intro w out hn hw hi hd ho
    have hl : 0 < w.length := List.length_pos_iff.2 hw
    have hl8 : w.length ≤ 8 := by omega
    refine Ev.succ ?_
    simp only [impl_Net_ways.f]
    rw [w64 (by omega)]
    refine Ev.pos (by omega) (Ev.pos (by omega) ?_)
    simp only [waysR]
    by_cases e : rd w ((w.length : Int) - 1) = b
    · rw [if_pos e]
      refine Ev.pos e ?_
      refine Ev.bind0 (a := w) (by unfold slices_Clone_int_int.f; rw [if_pos (by omega)]) ?_
      refine Ev.pos (by omega) ?_
      exact Ev.now _
    · rw [if_neg e, List.append_nil]
      refine Ev.neg e ?_
      suffices hs : ∀ (m : Nat) (i : Int), 0 ≤ i → i + m = n → Ev (fun k => impl_Net_ways.l0 k w b out (rd w ((w.length : Int) - 1)) n i n E) out from hs n.toNat 0 (by omega) (by omega)
      intro m
      induction m with
      | zero =>
        intro i h0 hi'
        refine Ev.succ ?_
        simp only [impl_Net_ways.l0]
        exact Ev.neg (by omega) (Ev.now _)
      | succ m ihm =>
        intro i h0 hi'
        have hin : i ∈ w := by
          refine Classical.byContradiction (fun hni => ?_)
          have := nodup_in_length (n := n) (nodup_snoc hn hni) (fun x hx => by
            rw [List.mem_append, List.mem_singleton] at hx
            rcases hx with hx | hx
            · exact hi x hx
            · subst hx; exact ⟨h0, by omega⟩)
          rw [List.length_append, List.length_singleton] at this
          omega
        have hnext : Ev (fun k => impl_Net_ways.j1 k w b out (rd w ((w.length : Int) - 1)) i n i false n E) out := by
          refine Ev.succ ?_
          simp only [impl_Net_ways.j1]
          refine Ev.neg (by simp) ?_
          rw [w64 (by omega)]
          exact ihm (i + 1) (by omega) (by omega)
        refine Ev.succ ?_
        simp only [impl_Net_ways.l0]
        refine Ev.pos (by omega) ?_
        refine Ev.bind (ev_has n E (rd w ((w.length : Int) - 1)) i (by omega)) ?_
        by_cases hh : Has E (rd w ((w.length : Int) - 1)) i
        · rw [dec_t hh]
          refine Ev.pos rfl ?_
          refine Ev.bind (ev_containsInt w i (by omega)) ?_
          rw [dec_t hin]
          exact hnext
        · rw [dec_f hh]
          exact Ev.neg (by simp) hnext
  | succ d ih =>
    intro w out hn hw hi hd ho
    have hl : 0 < w.length := List.length_pos_iff.2 hw
    have hl8 : w.length ≤ 8 := by omega
    have hp : 8 ^ (d + 1) = 8 * 8 ^ d := by rw [Nat.pow_succ]; omega
    have hp1 : 1 ≤ 8 ^ d := Nat.pos_of_ne_zero (by simp)
    refine Ev.succ ?_
    simp only [impl_Net_ways.f]
    rw [w64 (by omega)]
    refine Ev.pos (by omega) (Ev.pos (by omega) ?_)
    simp only [waysR]
    by_cases e : rd w ((w.length : Int) - 1) = b
    · rw [if_pos e]
      refine Ev.pos e ?_
      refine Ev.bind0 (a := w) (by unfold slices_Clone_int_int.f; rw [if_pos (by omega)]) ?_
      refine Ev.pos (by omega) ?_
      exact Ev.now _
    · rw [if_neg e]
      refine Ev.neg e ?_
      have hloop : ∀ (m : Nat) (i : Int) (o : List (List Int)), 0 ≤ i → i + m = n → o.length + m * 8 ^ d ≤ 1000000000 → Ev (fun k => impl_Net_ways.l0 k w b o (rd w ((w.length : Int) - 1)) n i n E) (o ++ (ksFrom n i).flatMap (fun k => if Has E (rd w ((w.length : Int) - 1)) k ∧ k ∉ w then waysR n E b d (w ++ [k]) else [])) := by
        intro m
        induction m with
        | zero =>
          intro i o h0 hi' _
          refine Ev.succ ?_
          simp only [impl_Net_ways.l0]
          rw [ksFrom_end (by omega)]
          simp only [List.flatMap_nil, List.append_nil]
          exact Ev.neg (by omega) (Ev.now _)
        | succ m ihm =>
          intro i o h0 hi' hb
          have hb' : o.length + (m * 8 ^ d + 8 ^ d) ≤ 1000000000 := by rw [Nat.succ_mul] at hb; exact hb
          rw [ksFrom_cons h0 (by omega), List.flatMap_cons]
          have hskip : Ev (fun k => impl_Net_ways.j1 k w b o (rd w ((w.length : Int) - 1)) i n i false n E) (o ++ (ksFrom n (i + 1)).flatMap (fun k => if Has E (rd w ((w.length : Int) - 1)) k ∧ k ∉ w then waysR n E b d (w ++ [k]) else [])) := by
            refine Ev.succ ?_
            simp only [impl_Net_ways.j1]
            refine Ev.neg (by simp) ?_
            rw [w64 (by omega)]
            exact ihm (i + 1) o (by omega) (by omega) (by omega)
          refine Ev.succ ?_
          simp only [impl_Net_ways.l0]
          refine Ev.pos (by omega) ?_
          refine Ev.bind (ev_has n E (rd w ((w.length : Int) - 1)) i (by omega)) ?_
          by_cases hh : Has E (rd w ((w.length : Int) - 1)) i
          · rw [dec_t hh]
            refine Ev.pos rfl ?_
            refine Ev.bind (ev_containsInt w i (by omega)) ?_
            by_cases hin : i ∈ w
            · rw [dec_t hin, if_neg (fun k => k.2 hin), List.nil_append]
              exact hskip
            · rw [dec_f hin, if_pos ⟨hh, hin⟩]
              refine Ev.succ ?_
              simp only [impl_Net_ways.j1]
              refine Ev.pos rfl ?_
              refine Ev.bind0 (a := w) (by unfold slices_Clone_int_int.f; rw [if_pos (by omega)]) ?_
              refine Ev.bind0 (a := [i]) rfl ?_
              refine Ev.pos (by simp; omega) ?_
              have hl1 := waysR_length (n := n) (by omega) E b d (w ++ [i])
              refine Ev.bind (ih (w ++ [i]) o (nodup_snoc hn hin) (by simp) (fun x hx => ?_) (by simp; omega) (by omega)) ?_
              · rw [List.mem_append, List.mem_singleton] at hx
                rcases hx with hx | hx
                · exact hi x hx
                · subst hx; exact ⟨h0, by omega⟩
              · rw [w64 (by omega), ← List.append_assoc]
                exact ihm (i + 1) _ (by omega) (by omega) (by rw [List.length_append]; omega)
          · rw [dec_f hh, if_neg (fun k => hh k.1), List.nil_append]
            exact Ev.neg (by simp) hskip
      have := hloop n.toNat 0 out (by omega) (by omega) (by
        have : n.toNat * 8 ^ d ≤ 8 * 8 ^ d := Nat.mul_le_mul_right _ (by omega)
        omega)
      rw [ksFrom_zero] at this
      exact this
theorem rd_last_eq {w : List Int} {a : Int} {r : List Int} (e : w = r ++ [a]) : rd w ((w.length : Int) - 1) = a := by
  subst e
  rw [show (((r ++ [a]).length : Int) - 1) = ((r.length : Nat) : Int) by simp, rd_nat]
  simp
theorem mem_waysR {n : Int} {E : List T} {b : Int} (h : OK n E) : ∀ (d : Nat) (r : List Int) (a : Int) (u : List Int), (r ++ [a]).Nodup → (∀ x ∈ r ++ [a], In n x) → r.length + 1 + d = n.toNat →
    (u ∈ waysR n E b d (r ++ [a]) ↔ ∃ v, u = r ++ v ∧ u.Nodup ∧ Path E a b v) := by
  intro d
  induction d with
  | zero =>
    intro r a u hn hi hd
    simp only [waysR]
    rw [rd_last_eq rfl]
    constructor
    · intro hu
      split at hu
      · next e =>
        subst e
        rw [List.mem_singleton] at hu
        subst hu
        exact ⟨[a], rfl, hn, Path.single E a⟩
      · exact absurd hu (by simp)
    · rintro ⟨v, rfl, hnd, p⟩
      obtain ⟨s, rfl⟩ := p.cons_eq
      cases s with
      | nil =>
        have hb : a = b := by have := p.lst; simpa using this
        rw [if_pos hb]
        simp
      | cons c s =>
        exfalso
        have hc : In n c := (h.has p.walk.1).2.1
        have hcn : c ∉ r ++ [a] := by
          intro hc'
          rw [show r ++ a :: c :: s = (r ++ [a]) ++ c :: s by simp] at hnd
          exact (List.nodup_append.1 hnd).2.2 c hc' c (by simp) rfl
        have := nodup_in_length (n := n) (nodup_snoc hn hcn) (fun x hx => by
          rw [List.mem_append, List.mem_singleton] at hx
          rcases hx with hx | hx
          · exact hi x hx
          · subst hx; exact hc)
        simp at this
        omega
  | succ d ih =>
    intro r a u hn hi hd
    simp only [waysR]
    rw [rd_last_eq rfl]
    constructor
    · intro hu
      split at hu
      · next e =>
        subst e
        rw [List.mem_singleton] at hu
        subst hu
        exact ⟨[a], rfl, hn, Path.single E a⟩
      · obtain ⟨k, hk, hu⟩ := List.mem_flatMap.1 hu
        split at hu
        · next hc =>
          have hkn := mem_ks.1 hk
          obtain ⟨v, e, hnd, p⟩ := (ih (r ++ [a]) k u (nodup_snoc hn hc.2) (fun x hx => by
            rw [List.mem_append, List.mem_singleton] at hx
            rcases hx with hx | hx
            · exact hi x hx
            · subst hx; exact hkn) (by simp; omega)).1 hu
          refine ⟨a :: v, by rw [e]; simp, hnd, p.consP hc.1 (fun ha => ?_)⟩
          rw [e] at hnd
          exact (List.nodup_append.1 hnd).2.2 a (by simp) a ha rfl
        · exact absurd hu (by simp)
    · rintro ⟨v, rfl, hnd, p⟩
      obtain ⟨s, rfl⟩ := p.cons_eq
      cases s with
      | nil =>
        have hb : a = b := by have := p.lst; simpa using this
        rw [if_pos hb]
        simp
      | cons c s =>
        have hcn : c ∉ r ++ [a] := by
          intro hc'
          rw [show r ++ a :: c :: s = (r ++ [a]) ++ c :: s by simp] at hnd
          exact (List.nodup_append.1 hnd).2.2 c hc' c (by simp) rfl
        have hab : a ≠ b := by
          intro e
          have hb := p.lst
          rw [List.getLast?_cons_cons] at hb
          have := List.mem_of_getLast? hb
          have hx := p.nd
          rw [List.nodup_cons] at hx
          exact hx.1 (e ▸ this)
        rw [if_neg hab]
        have hc : In n c := (h.has p.walk.1).2.1
        refine List.mem_flatMap.2 ⟨c, mem_ks.2 hc, ?_⟩
        rw [if_pos ⟨p.walk.1, hcn⟩]
        refine (ih (r ++ [a]) c _ (nodup_snoc hn hcn) (fun x hx => by
            rw [List.mem_append, List.mem_singleton] at hx
            rcases hx with hx | hx
            · exact hi x hx
            · subst hx; exact hc) (by simp; omega)).2 ⟨c :: s, by simp, hnd, ?_⟩
        exact Path.drop (A := [a]) p
noncomputable def allW (n : Int) (E : List T) (a b : Int) : List (List Int) := sortW (waysR n E b (n.toNat - 1) [a])
theorem mem_allW {n : Int} {E : List T} {a b : Int} (h : OK n E) (ha : In n a) {w : List Int} : w ∈ allW n E a b ↔ Path E a b w := by
  unfold allW
  rw [(sortW_perm _).mem_iff, show [a] = [] ++ [a] from rfl, mem_waysR h (n.toNat - 1) [] a w (by simp) (by simpa using ha) (by simp; have := ha.1; have := ha.2; omega)]
  exact ⟨fun ⟨v, e, _, p⟩ => by rw [e]; exact p, fun p => ⟨w, rfl, p.nd, p⟩⟩
theorem Path.len {n : Int} {E : List T} {a b : Int} {w : List Int} (h : OK n E) (ha : In n a) (p : Path E a b w) : w.length ≤ 8 := by
  have := nodup_in_length (n := n) p.nd (fun x hx => (p.conn_mem hx).inNet h ha)
  have := h.n8
  omega
theorem allW_len {n : Int} {E : List T} {a b : Int} (h : OK n E) (ha : In n a) : (allW n E a b).length ≤ 1000000000 ∧ ∀ w ∈ allW n E a b, w.length ≤ 8 := by
  refine ⟨?_, fun w hw => ((mem_allW h ha).1 hw).len h ha⟩
  unfold allW
  rw [(sortW_perm _).length_eq]
  have h1 := waysR_length (n := n) (by have := h.n8; omega) E b (n.toNat - 1) [a]
  have h2 : 8 ^ (n.toNat - 1) ≤ 8 ^ 7 := Nat.pow_le_pow_right (by omega) (by have := h.n8; omega)
  have h3 : (8 : Nat) ^ 7 ≤ 1000000000 := by decide
  omega
theorem ev_all {n : Int} {E : List T} {a b : Int} (h : OK n E) (ha : In n a) : Ev (fun k => impl_Net_all.f k n E a b) (allW n E a b) := by
  have hw := ev_ways (b := b) h (n.toNat - 1) [a] [] (by simp) (by simp) (by simpa using ha) (by simp; have := ha.1; have := ha.2; omega) (by
    have h2 : 8 ^ (n.toNat - 1) ≤ 8 ^ 7 := Nat.pow_le_pow_right (by omega) (by have := h.n8; omega)
    have h3 : (8 : Nat) ^ 7 ≤ 1000000000 := by decide
    simp only [List.length_nil]
    omega)
  rw [List.nil_append] at hw
  simp only [impl_Net_all.f]
  refine Ev.bind hw ?_
  have hl := allW_len (b := b) h ha
  unfold allW at hl
  rw [(sortW_perm _).length_eq] at hl
  exact Ev.pos ⟨by omega, fun x hx => by have := hl.2 x ((sortW_perm _).mem_iff.2 hx); omega⟩ (Ev.now _)
end Go.Proofs.Ytffflhmblelegaa.Th
namespace Go.Proofs.Ytffflhmblelegaa.Th
open Go.RowKit Go.Proofs.YtffflhmblelegaaW.PrintWords Go.Proofs.YtffflhmblelegaaW.PrintLast Go.Proofs.YtffflhmblelegaaW.PrintMore Go.Proofs.Ytffflhmblelegaa.F
noncomputable def nextL (n : Int) (E : List T) (v : Int) : List Int := (ks n).filter (fun c => dec (Has E v c))
theorem mem_nextL {n : Int} {E : List T} {v c : Int} : c ∈ nextL n E v ↔ In n c ∧ Has E v c := by
  unfold nextL
  rw [List.mem_filter, mem_ks, dec_iff]
  exact Iff.rfl
theorem nextL_length (n : Int) (E : List T) (v : Int) : (nextL n E v).length ≤ n.toNat := by
  have := List.length_filter_le (fun c => dec (Has E v c)) (ks n)
  rw [ks_length] at this
  exact this
theorem ev_l2Next_loop (n : Int) (E : List T) (v : Int) (hE : E.length ≤ 1048576) (hn : n ≤ 1000) : ∀ (d : Nat) (i : Int) (out : List Int), 0 ≤ i → i + d = n → out.length ≤ i.toNat →
    Ev (fun k => spec_l2Next.l0 k v out i n E) (out ++ (ksFrom n i).filter (fun c => dec (Has E v c)))
  | 0, i, out, h0, h, _ => by
    refine Ev.succ ?_
    simp only [spec_l2Next.l0]
    refine Ev.neg (by omega) (Ev.some_ ?_)
    rw [ksFrom_end (by omega)]; simp
  | d + 1, i, out, h0, h, hl => by
    refine Ev.succ ?_
    simp only [spec_l2Next.l0]
    refine Ev.pos (by omega) (Ev.bind (ev_l1Has n E v i hE) ?_)
    rw [ksFrom_cons h0 (by omega), w64 (by omega)]
    by_cases hv : Has E v i
    · refine Ev.pos (dec_t hv) (Ev.pos (by omega) ?_)
      refine Ev.cast (ev_l2Next_loop n E v hE hn d (i + 1) (out ++ [i]) (by omega) (by omega) (by simp only [List.length_append, List.length_singleton]; omega)) ?_
      rw [List.filter_cons_of_pos (p := fun c => dec (Has E v c)) (dec_t hv)]; simp
    · refine Ev.neg (by rw [dec_f hv]; simp) ?_
      refine Ev.cast (ev_l2Next_loop n E v hE hn d (i + 1) out (by omega) (by omega) (by omega)) ?_
      rw [List.filter_cons_of_neg (p := fun c => dec (Has E v c)) (by rw [dec_f hv]; simp)]
theorem ev_l2Next {n : Int} {E : List T} (v : Int) (hE : E.length ≤ 1048576) (h0 : 0 ≤ n) (hn : n ≤ 1000) : Ev (fun k => spec_l2Next.f k n E v) (nextL n E v) := by
  simp only [spec_l2Next.f]
  refine Ev.cast (ev_l2Next_loop n E v hE hn n.toNat 0 [] (by omega) (by omega) (by simp)) ?_
  rw [ksFrom_zero]; rfl
/-- What holds of a search for all that is come to: what is seen, and what waits. -/
structure Srch (n : Int) (E : List T) (a : Int) (seen : List Bool) (row : List Int) (at_ : Int → Prop) : Prop where
  len : seen.length = n.toNat
  ok : ∀ x, In n x → rdOf false seen x = true → Conn E a x
  rows : ∀ x ∈ row, In n x ∧ rdOf false seen x = true
  shut : ∀ x, In n x → rdOf false seen x = true → x ∈ row ∨ at_ x ∨ ∀ c, In n c → Has E x c → rdOf false seen c = true
  self : rdOf false seen a = true
theorem Srch.done {n : Int} {E : List T} {a : Int} {seen : List Bool} (h : OK n E) (ha : In n a) (s : Srch n E a seen [] (fun _ => False)) : seen = reachL n E a := by
  refine ext_rdB (by rw [s.len]; unfold reachL; rw [List.length_map, ks_length]) (fun x h0 hx => ?_)
  rw [s.len] at hx
  have hx' : In n x := ⟨h0, by omega⟩
  unfold reachL
  rw [rdB_mapks n _ x h0 hx'.2]
  refine dec_of ⟨s.ok x hx', fun hc => ?_⟩
  have := hc.keeps (P := fun y => In n y ∧ rdOf false seen y = true) (fun b c m k => ⟨(h.has m).2.1, ?_⟩) ⟨ha, s.self⟩
  · exact this.2
  · rcases s.shut b k.1 k.2 with e | e | e
    · simp at e
    · exact e.elim
    · exact e c (h.has m).2.1 m
theorem ev_WayReach_inner {n : Int} {E : List T} {a v : Int} (h : OK n E) (r : List Bool) (m : Nat) (hv : Conn E a v) (ha : 0 ≤ a)
    (hk : ∀ seen row, Srch n E a seen row (fun _ => False) → 2 * falses seen + row.length ≤ m → Ev (fun k => spec_WayReach.l0 k seen row n E) r) :
    ∀ (d j : Nat) (seen : List Bool) (row : List Int), j + d = (nextL n E v).length → Srch n E a seen row (· = v) → (∀ i < j, rdOf false seen (rd (nextL n E v) i) = true) → 2 * falses seen + row.length ≤ m → row.length + falses seen ≤ 100 →
      Ev (fun k => spec_WayReach.l1 k seen row (nextL n E v) j n E) r
  | 0, j, seen, row, hd, s, hj, hm, hb => by
    refine Ev.succ ?_
    simp only [spec_WayReach.l1]
    refine Ev.neg (by omega) (hk seen row ⟨s.len, s.ok, s.rows, fun x hx k => ?_, s.self⟩ hm)
    rcases s.shut x hx k with e | e | e
    · exact Or.inl e
    · subst e
      refine Or.inr (Or.inr (fun c hc hh => ?_))
      obtain ⟨i, hi, e⟩ := List.mem_iff_getElem.1 (mem_nextL.2 ⟨hc, hh⟩)
      have := hj i (by omega)
      rw [rd_getElem _ i hi, e] at this
      exact this
    · exact Or.inr (Or.inr e)
  | d + 1, j, seen, row, hd, s, hj, hm, hb => by
    have hjl : j < (nextL n E v).length := by omega
    have hl := nextL_length n E v
    have h8 := h.n8
    have hc := mem_nextL.1 (List.getElem_mem hjl)
    refine Ev.succ ?_
    simp only [spec_WayReach.l1, rd_getElem _ j hjl]
    have hcl : (nextL n E v)[j] < (seen.length : Int) := by have := s.len; have := hc.1.1; have := hc.1.2; omega
    refine Ev.pos (by omega) (Ev.pos (by omega) (Ev.pos hc.1.1 (Ev.pos hcl ?_)))
    rw [w64 (by omega)]
    by_cases e : rdOf false seen (nextL n E v)[j] = true
    · refine Ev.pos e ?_
      refine ev_WayReach_inner h r m hv ha hk d (j + 1) seen row (by omega) s (fun i hi => ?_) hm hb
      by_cases hij : i = j
      · subst hij; rw [rd_getElem _ i hjl]; exact e
      · exact hj i (by omega)
    · refine Ev.neg e (Ev.pos (by omega) ?_)
      have hset := rdB_set seen (nextL n E v)[j]
      have hf : falses (seen.set (nextL n E v)[j].toNat true) + 1 = falses seen := by
        refine falses_set seen _ (by have := hc.1.1; omega) ?_
        rw [rdB_i _ _ hc.1.1 hcl] at e
        exact Bool.eq_false_iff.2 e
      refine ev_WayReach_inner h r m hv ha hk d (j + 1) _ _ (by omega) ⟨by rw [List.length_set]; exact s.len, fun x hx => ?_, fun x hx => ?_, fun x hx => ?_, ?_⟩ (fun i hi => ?_) (by simp only [List.length_append, List.length_singleton]; omega) (by simp only [List.length_append, List.length_singleton]; omega)
      · rw [hset x true hc.1.1 hcl hx.1]
        split
        · next e => intro _; subst e; exact hv.step hc.2
        · exact s.ok x hx
      · rcases List.mem_append.1 hx with hx | hx
        · have := s.rows x hx
          rw [hset x true hc.1.1 hcl this.1.1]
          exact ⟨this.1, by split <;> simp_all⟩
        · rw [List.mem_singleton] at hx
          subst hx
          rw [hset _ true hc.1.1 hcl hc.1.1, if_pos rfl]
          exact ⟨hc.1, rfl⟩
      · rw [hset x true hc.1.1 hcl hx.1]
        split
        · next e => intro _; subst e; exact Or.inl (List.mem_append_right _ (by simp))
        · intro hk'
          rcases s.shut x hx hk' with e | e | e
          · exact Or.inl (List.mem_append_left _ e)
          · exact Or.inr (Or.inl e)
          · refine Or.inr (Or.inr (fun c hcc hh => ?_))
            rw [hset c true hc.1.1 hcl hcc.1]
            split
            · rfl
            · exact e c hcc hh
      · rw [hset a true hc.1.1 hcl ha]
        split
        · rfl
        · exact s.self
      · have hi' : i < (nextL n E v).length := by omega
        rw [hset _ true hc.1.1 hcl (by rw [rd_getElem _ i hi']; exact (mem_nextL.1 (List.getElem_mem hi')).1.1)]
        split
        · rfl
        · next e' =>
          by_cases hij : i = j
          · subst hij; exact absurd (rd_getElem _ i hjl) e'
          · exact hj i (by omega)
theorem ev_WayReach_outer {n : Int} {E : List T} {a : Int} (h : OK n E) (ha : In n a) : ∀ (m : Nat) (seen : List Bool) (row : List Int), Srch n E a seen row (fun _ => False) → 2 * falses seen + row.length ≤ m → m ≤ 100 →
    Ev (fun k => spec_WayReach.l0 k seen row n E) (reachL n E a)
  | m, seen, [], s, hm, hb => by
    refine Ev.succ ?_
    simp only [spec_WayReach.l0]
    exact Ev.neg (by simp) (Ev.some_ (s.done h ha))
  | 0, seen, v :: row, s, hm, hb => by simp at hm
  | m + 1, seen, v :: row, s, hm, hb => by
    simp only [List.length_cons] at hm
    refine Ev.succ ?_
    simp only [spec_WayReach.l0]
    have hl := h.length
    have r0 : rd (v :: row) 0 = v := rfl
    have hv := s.rows v List.mem_cons_self
    refine Ev.pos (by simp only [List.length_cons]; omega) (Ev.pos (by simp only [List.length_cons]; omega) (Ev.bind (a := nextL n E v) ?_ (Ev.pos (by simp only [List.length_cons]; omega) ?_)))
    · rw [r0]; exact ev_l2Next v (by omega) h.n0 (by have := h.n8; omega)
    · have hd : (v :: row).drop (1 : Int).toNat = row := rfl
      rw [hd]
      refine ev_WayReach_inner h (reachL n E a) m (s.ok v hv.1 hv.2) ha.1 (fun seen' row' s' hm' => ev_WayReach_outer h ha m seen' row' s' hm' (by omega)) (nextL n E v).length 0 seen row (by omega) ⟨s.len, s.ok, fun x hx => s.rows x (List.mem_cons_of_mem _ hx), fun x hx k => ?_, s.self⟩ (by intro i hi; omega) (by omega) (by omega)
      rcases s.shut x hx k with e | e | e
      · rcases List.mem_cons.1 e with e | e
        · exact Or.inr (Or.inl e)
        · exact Or.inl e
      · exact e.elim
      · exact Or.inr (Or.inr e)
theorem falses_replicate (m : Nat) : falses (List.replicate m false) = m := by
  induction m with
  | zero => rfl
  | succ m ih => rw [List.replicate_succ]; simp only [falses, ih]; simp; omega
/-- The reference's WayReach. -/
theorem ev_spec_WayReach {n : Int} {E : List T} {a : Int} (h : OK n E) (ha : In n a) : Ev (fun k => spec_WayReach.f k n E a) (reachL n E a) := by
  have h0 := h.n0
  have h8 := h.n8
  have hl := h.length
  simp only [spec_WayReach.f]
  refine Ev.bind (ev_l1Knot n E a (by omega) h.wf) (Ev.pos (dec_t ⟨h, ha⟩) (Ev.pos h0 (Ev.pos (by omega) (Ev.bind0 rfl (Ev.pos ha.1 (Ev.pos ?_ ?_))))))
  · rw [List.length_replicate]; have := ha.2; omega
  · have hla : a < ((List.replicate n.toNat false).length : Int) := by rw [List.length_replicate]; have := ha.2; omega
    have hset := fun x => rdB_set (List.replicate n.toNat false) a x true ha.1 hla
    have hrep : ∀ x, rdOf false (List.replicate n.toNat false) x = false := fun x => by
      unfold rdOf
      rw [List.getD_eq_getElem?_getD, List.getElem?_replicate]
      split <;> rfl
    have hf : falses ((List.replicate n.toNat false).set a.toNat true) + 1 = n.toNat := by
      rw [falses_set _ _ (by have := ha.1; omega) (by simp), falses_replicate]
    refine ev_WayReach_outer h ha 100 _ _ ⟨by simp, fun x hx k => ?_, fun x hx => ?_, fun x hx k => ?_, ?_⟩ (by simp only [List.length_singleton]; omega) (by omega)
    · rw [hset x hx.1] at k
      split at k
      · next e => subst e; exact .refl _
      · rw [hrep] at k; simp at k
    · rw [List.mem_singleton] at hx
      subst hx
      rw [hset x ha.1, if_pos rfl]
      exact ⟨ha, rfl⟩
    · rw [hset x hx.1] at k
      split at k
      · next e => subst e; exact Or.inl (by simp)
      · rw [hrep] at k; simp at k
    · rw [hset a ha.1, if_pos rfl]
theorem reachL_length (n : Int) (E : List T) (a : Int) : (reachL n E a).length = n.toNat := by unfold reachL; rw [List.length_map, ks_length]
theorem rd_reachL {n : Int} (E : List T) (a : Int) {b : Int} (hb : In n b) : rdOf false (reachL n E a) b = dec (Conn E a b) := by
  unfold reachL; rw [rdB_mapks n _ b hb.1 hb.2]
end Go.Proofs.Ytffflhmblelegaa.Th
namespace Go.Proofs.Ytffflhmblelegaa.Th
open Go.RowKit Go.Proofs.YtffflhmblelegaaW.PrintWords Go.Proofs.YtffflhmblelegaaW.PrintLast Go.Proofs.YtffflhmblelegaaW.PrintMore Go.Proofs.Ytffflhmblelegaa.F Classical
/-- Of each knot: how many ties lead from there to b; less than 0 if none do. -/
structure Far (n : Int) (E : List T) (b : Int) (far : List Int) : Prop where
  len : far.length = n.toNat
  zero : rd far b = 0
  down : ∀ x, In n x → 0 ≤ rd far x → x = b ∨ ∃ c, Has E x c ∧ 0 ≤ rd far c ∧ rd far x = rd far c + 1
  step : ∀ x c, Has E x c → 0 ≤ rd far x → 0 ≤ rd far c ∧ rd far c ≤ rd far x + 1
theorem Far.le {n : Int} {E : List T} {b : Int} {far : List Int} (f : Far n E b far) : ∀ (q : List Int) (x : Int), Path E x b q → 0 ≤ rd far x ∧ rd far x + 1 ≤ q.length
  | [], _, p => absurd rfl p.ne
  | [y], x, p => by
    have h := p.hd; have l := p.lst
    simp at h l
    subst h; subst l
    rw [f.zero]; simp
  | y :: c :: s, x, p => by
    have h := p.hd
    simp at h
    subst h
    have ih := f.le (c :: s) c (Path.drop (A := [y]) p)
    have hs := f.step c y (Has.symm p.walk.1) ih.1
    refine ⟨hs.1, ?_⟩
    have := ih.2
    simp only [List.length_cons] at this ⊢
    omega
/-- A way that is not the tie itself does not go over it. -/
theorem path_off {E : List T} {a b : Int} {w : List Int} (p : Path E a b w) (hab : a ≠ b) (hw : w ≠ [a, b]) : Path (less E (· = tie a b)) a b w := by
  refine ⟨p.nd, walk_es.2 (fun t ht => mem_less.2 ⟨walk_es.1 p.walk t ht, fun e => ?_⟩), p.hd, p.lst⟩
  obtain ⟨A, k, x, B, rfl, hk⟩ := mem_es ht
  subst e
  have hnd := p.nd
  have hd := p.hd
  have hl := p.lst
  have hA : a = k → A = [] := fun e => by
    cases A with
    | nil => rfl
    | cons y A =>
      have : y = a := by simpa using hd
      subst this
      subst e
      simp [List.nodup_cons] at hnd
  rcases tie_inj hk with ⟨e1, e2⟩ | ⟨e1, e2⟩
  · subst e1; subst e2
    obtain rfl := hA rfl
    cases B with
    | nil => exact hw rfl
    | cons y B =>
      have hm : x ∈ y :: B := List.mem_of_getLast? (by simpa [List.getLast?_cons_cons] using hl)
      rw [List.nil_append, List.nodup_cons, List.nodup_cons] at hnd
      exact hnd.2.1 hm
  · subst e1; subst e2
    cases A with
    | nil =>
      have : k = x := by simpa using hd
      exact hab this.symm
    | cons y A =>
      have : y = x := by simpa using hd
      subst this
      simp [List.nodup_cons] at hnd
theorem Bl.mono {E F : List T} (hs : ∀ t, t ∈ E → t ∈ F) {s t : T} (b : Bl E s t) : Bl F s t := fun v => by
  obtain ⟨x, y, a1, a2, a3, a4, a5⟩ := b v
  exact ⟨x, y, a1, a2, a3, a4, a5.mono (fun u hu => mem_less.2 ⟨hs u (mem_less.1 hu).1, (mem_less.1 hu).2⟩)⟩
/-- A way of more than one tie over t between the ends of s: a ring with both. -/
theorem ring_iff {n : Int} {E : List T} (h : OK n E) {s t : T} (hs : s ∈ E) (ht : t ∈ E) : (s = t ∨ ∃ w ∈ allW n E s.f0 s.f1, 2 < w.length ∧ t ∈ es w) ↔ Bl E s t := by
  have hse := h.tie s hs
  have h0 : In n s.f0 := ⟨by omega, by omega⟩
  have hne : s.f0 ≠ s.f1 := by omega
  have hself := tie_self h hs
  rw [← cc_iff h hs ht]
  unfold CC
  constructor
  · rintro (e | ⟨w, hw, hl, hm⟩)
    · exact Or.inl e.symm
    · refine Or.inr ⟨w, ?_, hm⟩
      have p := (mem_allW h h0).1 hw
      have := path_off p hne (fun e => by rw [e] at hl; simp at hl)
      rwa [hself] at this
  · rintro (e | ⟨w, p, hm⟩)
    · exact Or.inl e.symm
    · have q : Path E s.f0 s.f1 w := p.mono (fun u hu => (mem_less.1 hu).1)
      refine Or.inr ⟨w, (mem_allW h h0).2 q, ?_, hm⟩
      obtain ⟨r, rfl⟩ := q.cons_eq
      match r, q, p with
      | [], q, _ => have := q.lst; simp at this; exact absurd this hne
      | [c], q, p =>
        have hc : c = s.f1 := by have := q.lst; simpa using this
        subst hc
        exact absurd hself (mem_less.1 (p.walk.1 : Has (less E (· = s)) s.f0 s.f1)).2
      | c :: d :: r, _, _ => simp
/-- The tie at a place. -/
abbrev at_ (E : List T) (i : Int) : T := rd_T52 E i
theorem at_nat (E : List T) (i : Nat) (h : i < E.length) : at_ E (i : Int) = E[i] := rd_T_nat E i h
theorem at_mem {E : List T} {i : Int} (h : 0 ≤ i) (k : i < E.length) : at_ E i ∈ E := by
  obtain ⟨j, rfl⟩ : ∃ j : Nat, i = j := ⟨i.toNat, by omega⟩
  rw [at_nat E j (by omega)]
  exact List.getElem_mem _
theorem mem_at {E : List T} {t : T} (h : t ∈ E) : ∃ i : Int, 0 ≤ i ∧ i < E.length ∧ at_ E i = t := by
  obtain ⟨i, hi, rfl⟩ := List.mem_iff_getElem.1 h
  exact ⟨i, by omega, by omega, at_nat E i hi⟩
theorem at_lt {n : Int} {E : List T} (h : OK n E) {i j : Int} (hi : 0 ≤ i) (hj : j < E.length) (hij : i < j) : lt (at_ E i) (at_ E j) := by
  obtain ⟨a, rfl⟩ : ∃ a : Nat, i = a := ⟨i.toNat, by omega⟩
  obtain ⟨b, rfl⟩ : ∃ b : Nat, j = b := ⟨j.toNat, by omega⟩
  rw [at_nat E a (by omega), at_nat E b (by omega)]
  have := h.asc
  unfold Asc at this
  rw [List.pairwise_iff_getElem] at this
  exact this a b (by omega) (by omega) (by omega)
theorem at_inj {n : Int} {E : List T} (h : OK n E) {i j : Int} (hi : 0 ≤ i) (hi' : i < E.length) (hj : 0 ≤ j) (hj' : j < E.length) (e : at_ E i = at_ E j) : i = j := by
  rcases Int.lt_trichotomy i j with k | k | k
  · exact absurd (e ▸ at_lt h hi hj' k) (lt_irrefl _)
  · exact k
  · exact absurd (e ▸ at_lt h hj hi' k) (lt_irrefl _)
theorem at_lt_iff {n : Int} {E : List T} (h : OK n E) {i j : Int} (_hi : 0 ≤ i) (hi' : i < E.length) (hj : 0 ≤ j) (hj' : j < E.length) (k : lt (at_ E i) (at_ E j)) : i < j := by
  rcases Int.lt_trichotomy i j with e | e | e
  · exact e
  · subst e; exact absurd k (lt_irrefl _)
  · exact absurd (at_lt h hj hi' e) (lt_asymm k)
structure LabT (E : List T) (out : List Int) : Prop where
  len : out.length = E.length
  low : ∀ i : Int, 0 ≤ i → i < E.length → 0 ≤ rd out i ∧ rd out i ≤ i
  bl : ∀ i : Int, 0 ≤ i → i < E.length → Bl E (at_ E (rd out i)) (at_ E i)
theorem LabT.start {n : Int} {E : List T} (h : OK n E) : LabT E (ks E.length) := by
  have e : ∀ i : Int, 0 ≤ i → i < E.length → rd (ks E.length) i = i := fun i h0 hi => by
    obtain ⟨j, rfl⟩ : ∃ j : Nat, i = j := ⟨i.toNat, by omega⟩
    rw [rd_getElem _ j (by rw [ks_length]; omega), ks_getElem]
  refine ⟨by rw [ks_length]; omega, fun i h0 hi => by rw [e i h0 hi]; omega, fun i h0 hi => ?_⟩
  rw [e i h0 hi]
  exact Bl.refl h (at_mem h0 hi)
theorem LabT.set {n : Int} {E : List T} (h : OK n E) {out : List Int} (l : LabT E out) {i k : Int} (hi : 0 ≤ i) (hi' : i < E.length) (hk : 0 ≤ k) (hk' : k < E.length) (hlt : rd out k < rd out i) (hs : Side E (at_ E i) (at_ E k)) : LabT E (out.set i.toNat (rd out k)) := by
  have e := fun j hj => rd_set out i j (rd out k) hi (by rw [l.len]; exact hi') hj
  have l1 := l.low i hi hi'
  have l2 := l.low k hk hk'
  refine ⟨by rw [List.length_set]; exact l.len, fun j h0 hj => ?_, fun j h0 hj => ?_⟩
  · rw [e j h0]
    split
    · next q => subst q; omega
    · exact l.low j h0 hj
  · rw [e j h0]
    split
    · next q =>
      subst q
      exact (l.bl k hk hk').trans h (at_mem hk hk') hs.bl.symm
    · exact l.bl j h0 hj
/-- None changes any more. -/
def Still (E : List T) (out : List Int) : Prop := ∀ i k : Int, 0 ≤ i → i < E.length → 0 ≤ k → k < E.length → ¬ (rd out k < rd out i ∧ at_ E i ≠ at_ E k ∧ Side E (at_ E i) (at_ E k))
theorem LabT.same {n : Int} {E : List T} (h : OK n E) {out : List Int} (s : Still E out) {i : Int} (hi : 0 ≤ i) (hi' : i < E.length) {t : T} (c : Chain E (at_ E i) t) : ∀ k : Int, 0 ≤ k → k < E.length → at_ E k = t → rd out k = rd out i := by
  induction c with
  | refl => intro k hk hk' e; rw [at_inj h hk hk' hi hi' e]
  | step c hu sd ih =>
    rename_i u v
    intro k hk hk' e
    obtain ⟨j, hj, hj', ej⟩ := mem_at (c.mem (at_mem hi hi'))
    have e1 := ih j hj hj' ej
    by_cases hne : at_ E j = at_ E k
    · rw [at_inj h hk hk' hj hj' hne.symm, e1]
    · have s1 := s j k hj hj' hk hk'
      have s2 := s k j hk hk' hj hj'
      rw [ej, e] at s1 s2
      have hne' : ¬ u = v := fun q => hne (by rw [ej, e, q])
      have a1 : ¬ rd out k < rd out j := fun q => s1 ⟨q, hne', sd⟩
      have a2 : ¬ rd out j < rd out k := fun q => s2 ⟨q, fun q' => hne' q'.symm, sd.symm⟩
      omega
theorem LabT.fst {n : Int} {E : List T} (h : OK n E) {out : List Int} (l : LabT E out) (s : Still E out) {i : Int} (hi : 0 ≤ i) (hi' : i < E.length) : Fst E (at_ E (rd out i)) := by
  have l1 := l.low i hi hi'
  have hmo := at_mem (E := E) l1.1 (by omega)
  intro t ht hb hlt
  obtain ⟨j, hj, hj', ej⟩ := mem_at ht
  have hj2 : j < rd out i := at_lt_iff h hj hj' l1.1 (by omega) (by rw [ej]; exact hlt)
  have hb2 : Bl E (at_ E j) (at_ E i) := by rw [ej]; exact hb.trans h hmo (l.bl i hi hi')
  have e := LabT.same h s hj hj' (hb2.chain h (at_mem hj hj') (at_mem hi hi')) i hi hi' rfl
  have l2 := l.low j hj hj'
  omega
theorem LabT.eq_iff {n : Int} {E : List T} (h : OK n E) {out : List Int} (l : LabT E out) (s : Still E out) {i k : Int} (hi : 0 ≤ i) (hi' : i < E.length) (hk : 0 ≤ k) (hk' : k < E.length) (hf : Fst E (at_ E i)) : rd out k = i ↔ Bl E (at_ E i) (at_ E k) := by
  constructor
  · intro e
    have := l.bl k hk hk'
    rw [e] at this
    exact this
  · intro b
    have l1 := l.low k hk hk'
    have hm := at_mem (E := E) l1.1 (by omega)
    exact at_inj h l1.1 (by omega) hi hi' (first_uniq hm (at_mem hi hi') (LabT.fst h l s hk hk') hf ((l.bl k hk hk').trans h (at_mem hk hk') b.symm))
theorem LabT.self_iff {n : Int} {E : List T} (h : OK n E) {out : List Int} (l : LabT E out) (s : Still E out) {i : Int} (hi : 0 ≤ i) (hi' : i < E.length) : rd out i = i ↔ Fst E (at_ E i) := by
  constructor
  · intro e
    have := LabT.fst h l s hi hi'
    rwa [e] at this
  · intro hf
    exact (LabT.eq_iff h l s hi hi' hi hi' hf).2 (Bl.refl h (at_mem hi hi'))
end Go.Proofs.Ytffflhmblelegaa.Th
namespace Go.Proofs.Ytffflhmblelegaa.Th
open Go.RowKit Go.Proofs.YtffflhmblelegaaW.PrintWords Go.Proofs.YtffflhmblelegaaW.PrintLast Go.Proofs.YtffflhmblelegaaW.PrintMore Go.Proofs.Ytffflhmblelegaa.F
/-- Labels: none is greater than its knot, each leads there. -/
structure Lab (n : Int) (E : List T) (out : List Int) : Prop where
  len : out.length = n.toNat
  le : ∀ x, In n x → 0 ≤ rd out x ∧ rd out x ≤ x
  ok : ∀ x, In n x → Conn E (rd out x) x
/-- Labels with which all ties agree are those of the least. -/
theorem Lab.done {n : Int} {E : List T} {out : List Int} (s : Lab n E out) (he : ∀ t ∈ E, rd out t.f0 = rd out t.f1) : out = partsL n E := by
  refine ext_rd (by rw [s.len]; unfold partsL; rw [List.length_map, ks_length]) (fun x h0 hx => ?_)
  rw [s.len] at hx
  have hx' : In n x := ⟨h0, by omega⟩
  unfold partsL
  rw [rd_mapks n _ x h0 hx'.2]
  have hk : ∀ a b, Conn E a b → rd out a = rd out b := fun a b c => by
    have := c.keeps (P := fun y => rd out a = rd out y) (fun b c m k => k.trans ?_) rfl
    · exact this
    · have := he _ m
      unfold tie at this
      split at this <;> simp only at this
      · exact this
      · exact this.symm
  refine (rep_unique E h0 (s.le x hx').1 (s.ok x hx') (fun j hj hc => ?_)).symm
  by_cases hjn : j < n
  · have := (s.le j ⟨hj, hjn⟩).2
    rw [hk j x hc] at this
    exact this
  · have := (s.le x hx').2
    omega
theorem Lab.nonneg {n : Int} {E : List T} {out : List Int} (s : Lab n E out) : 0 ≤ out.sum := by
  refine sum_nonneg out (fun x hx => ?_)
  obtain ⟨i, hi, e⟩ := List.mem_iff_getElem.1 hx
  have := (s.le i ⟨by omega, by have := s.len; omega⟩).1
  rw [rd_getElem _ i hi, e] at this
  exact this
theorem ev_spec_without_loop (n : Int) (E : List T) (v : Int) (hE : E.length ≤ 1048576) : ∀ (d i : Nat) (out : List T), i + d = E.length → out.length ≤ i →
    Ev (fun k => spec_NetWithout.l0 k v i n E n out) (n, out ++ lessK (E.drop i) v)
  | 0, i, out, h, _ => by
    refine Ev.succ ?_
    simp only [spec_NetWithout.l0]
    refine Ev.neg (by omega) (Ev.some_ ?_)
    rw [List.drop_of_length_le (by omega)]
    simp [less]
  | d + 1, i, out, h, hl => by
    have hi : i < E.length := by omega
    refine Ev.succ ?_
    simp only [spec_NetWithout.l0, rd_T_nat E i hi]
    refine Ev.pos (by omega) (Ev.pos (by omega) ?_)
    rw [List.drop_eq_getElem_cons hi, w64 (by omega)]
    by_cases h0 : E[i].f0 = v
    · rw [lessK, less_cons_pos (Or.inl h0)]
      exact Ev.pos h0 (ev_spec_without_loop n E v hE d (i + 1) out (by omega) (by omega))
    · refine Ev.neg h0 ?_
      by_cases h1 : E[i].f1 = v
      · rw [lessK, less_cons_pos (Or.inr h1)]
        exact Ev.pos h1 (ev_spec_without_loop n E v hE d (i + 1) out (by omega) (by omega))
      · rw [lessK, less_cons_neg (not_or.2 ⟨h0, h1⟩)]
        refine Ev.neg h1 (Ev.pos (by omega) ?_)
        refine Ev.cast (ev_spec_without_loop n E v hE d (i + 1) (out ++ [E[i]]) (by omega) (by simp only [List.length_append, List.length_singleton]; omega)) ?_
        simp
theorem ev_spec_NetWithout {n : Int} {E : List T} {v : Int} (h : OK n E) (hv : In n v) : Ev (fun k => spec_NetWithout.f k n E v) (n, lessK E v) := by
  have := h.length
  simp only [spec_NetWithout.f]
  refine Ev.bind (ev_l1Knot n E v (by omega) h.wf) (Ev.pos (dec_t ⟨h, hv⟩) ?_)
  exact ev_spec_without_loop n E v (by omega) E.length 0 [] (by omega) (by simp)
end Go.Proofs.Ytffflhmblelegaa.Th
namespace Go.Proofs.Ytffflhmblelegaa.Th
open Go.RowKit Go.Proofs.YtffflhmblelegaaW.PrintWords Go.Proofs.YtffflhmblelegaaW.PrintLast Go.Proofs.YtffflhmblelegaaW.PrintMore Go.Proofs.Ytffflhmblelegaa.F Classical
def meet (s t : T) : Int := if s.f0 = t.f0 ∧ s.f1 = t.f1 then -1 else if s.f0 = t.f0 ∨ s.f0 = t.f1 then s.f0 else if s.f1 = t.f0 ∨ s.f1 = t.f1 then s.f1 else -1
def otherK (t : T) (m : Int) : Int := if t.f0 = m then t.f1 else t.f0
theorem ev_l12Meet (s t : T) : Ev (fun k => spec_l12Meet.f k s.f0 s.f1 t.f0 t.f1) (meet s t) := by
  simp only [spec_l12Meet.f]
  unfold meet
  by_cases e : s.f0 = t.f0 ∧ s.f1 = t.f1
  · rw [if_pos e]
    exact Ev.pos (by simp [e.1, e.2]) (Ev.now _)
  · rw [if_neg e]
    refine Ev.neg (by simpa using e) ?_
    by_cases e0 : s.f0 = t.f0
    · rw [if_pos (Or.inl e0)]
      refine Ev.pos e0 (Ev.succ ?_)
      simp only [spec_l12Meet.j0]
      exact Ev.pos trivial (Ev.now _)
    · refine Ev.neg e0 (Ev.succ ?_)
      simp only [spec_l12Meet.j0]
      by_cases e1 : s.f0 = t.f1
      · rw [if_pos (Or.inr e1)]
        exact Ev.pos (by simpa using e1) (Ev.now _)
      · rw [if_neg (show ¬ (s.f0 = t.f0 ∨ s.f0 = t.f1) from fun k => k.elim e0 e1)]
        refine Ev.neg (by simpa using e1) ?_
        by_cases e2 : s.f1 = t.f0
        · rw [if_pos (Or.inl e2)]
          exact Ev.pos e2 (Ev.now _)
        · refine Ev.neg e2 ?_
          by_cases e3 : s.f1 = t.f1
          · rw [if_pos (Or.inr e3)]
            exact Ev.pos e3 (Ev.now _)
          · rw [if_neg (show ¬ (s.f1 = t.f0 ∨ s.f1 = t.f1) from fun k => k.elim e2 e3)]
            exact Ev.neg e3 (Ev.now _)
theorem other_eq (t : T) (m : Int) : spec_l12Other.f t.f0 t.f1 m = some (otherK t m) := by
  unfold spec_l12Other.f otherK
  split <;> rfl
theorem tie_other {n : Int} {E : List T} (h : OK n E) {t : T} (ht : t ∈ E) {m : Int} (hm : On t m) : t = tie m (otherK t m) ∧ otherK t m ≠ m ∧ On t (otherK t m) := by
  have hlt := h.tie t ht
  unfold otherK
  by_cases e : t.f0 = m
  · rw [if_pos e]
    exact ⟨by rw [← e]; exact (tie_self h ht).symm, by omega, Or.inr rfl⟩
  · rw [if_neg e]
    rcases hm with k | k
    · exact absurd k.symm e
    · exact ⟨by rw [k, tie_comm]; exact (tie_self h ht).symm, by omega, Or.inl rfl⟩
theorem meet_on {n : Int} {E : List T} (h : OK n E) {s t : T} (hs : s ∈ E) (_ht : t ∈ E) : meet s t = -1 ∨ s ≠ t ∧ On s (meet s t) ∧ On t (meet s t) ∧ 0 ≤ meet s t := by
  have h1 := h.tie s hs
  have hne : ¬ (s.f0 = t.f0 ∧ s.f1 = t.f1) → s ≠ t := fun k e => k (by rw [e]; exact ⟨rfl, rfl⟩)
  unfold meet
  split
  · exact Or.inl rfl
  · next e =>
    split
    · next k => exact Or.inr ⟨hne e, Or.inl rfl, k, by omega⟩
    · split
      · next k => exact Or.inr ⟨hne e, Or.inr rfl, k, by omega⟩
      · exact Or.inl rfl
theorem meet_eq {n : Int} {E : List T} (h : OK n E) {s t : T} (hs : s ∈ E) (ht : t ∈ E) (hst : s ≠ t) {k : Int} (h1 : On s k) (h2 : On t k) : meet s t = k := by
  have l1 := h.tie s hs
  have l2 := h.tie t ht
  have hne : ¬ (s.f0 = t.f0 ∧ s.f1 = t.f1) := fun e => hst (by rw [← tie_self h hs, ← tie_self h ht, e.1, e.2])
  unfold On at h1 h2
  unfold meet
  rw [if_neg hne]
  split
  · omega
  · split
    · omega
    · omega
theorem other_tie {k x : Int} (hx : x ≠ k) : otherK (tie k x) k = x := by
  unfold otherK tie
  by_cases e : k < x
  · rw [if_pos e]; simp
  · rw [if_neg e]; simp [hx]
theorem side_iff {n : Int} {E : List T} (h : OK n E) {s t : T} (hs : s ∈ E) (ht : t ∈ E) : (s ≠ t ∧ Side E s t) ↔ 0 ≤ meet s t ∧ Conn (lessK E (meet s t)) (otherK s (meet s t)) (otherK t (meet s t)) := by
  constructor
  · rintro ⟨hne, k, x, y, e1, e2, hx, hy, c⟩
    have hm : meet s t = k := meet_eq h hs ht hne (by rw [e1]; exact on_tie.2 (Or.inl rfl)) (by rw [e2]; exact on_tie.2 (Or.inl rfl))
    have h0 : 0 ≤ k := by
      have hk : On s k := by rw [e1]; exact on_tie.2 (Or.inl rfl)
      have := h.tie s hs
      unfold On at hk
      omega
    rw [hm, e1, e2, other_tie hx, other_tie hy]
    exact ⟨h0, c⟩
  · rintro ⟨h0, c⟩
    rcases meet_on h hs ht with k | ⟨hne, h1, h2, _⟩
    · omega
    · obtain ⟨a1, a2, _⟩ := tie_other h hs h1
      obtain ⟨b1, b2, _⟩ := tie_other h ht h2
      exact ⟨hne, meet s t, _, _, a1, b1, a2, b2, c⟩
theorem ev_l12Side {n : Int} {E : List T} (h : OK n E) {s t : T} (hs : s ∈ E) (ht : t ∈ E) : Ev (fun k => spec_l12Side.f k n E s.f0 s.f1 t.f0 t.f1) (dec (s ≠ t ∧ Side E s t)) := by
  have hi := side_iff h hs ht
  simp only [spec_l12Side.f]
  refine Ev.bind (ev_l12Meet s t) ?_
  by_cases m0 : meet s t < 0
  · exact Ev.pos m0 (Ev.some_ (dec_f (fun k => by have := (hi.1 k).1; omega)).symm)
  · refine Ev.neg m0 ?_
    rcases meet_on h hs ht with k | ⟨hne, h1, h2, _⟩
    · omega
    · obtain ⟨_, _, a3⟩ := tie_other h hs h1
      obtain ⟨_, _, b3⟩ := tie_other h ht h2
      have i1 := h.tie s hs
      have i2 := h.tie t ht
      have ins : ∀ {x}, On s x → In n x := fun {x} k => by unfold On at k; exact ⟨by omega, by omega⟩
      have int : ∀ {x}, On t x → In n x := fun {x} k => by unfold On at k; exact ⟨by omega, by omega⟩
      have hb := int b3
      refine Ev.bind (ev_spec_NetWithout h (ins h1)) (Ev.bind0 (other_eq s _) (Ev.bind (ev_spec_WayReach (h.less _) (ins a3)) (Ev.bind0 (other_eq t _) (Ev.pos hb.1 (Ev.pos (by rw [reachL_length]; have := hb.1; have := hb.2; omega) (Ev.some_ ?_))))))
      rw [rd_reachL _ _ hb]
      exact dec_congr ⟨fun k => hi.2 ⟨by omega, k⟩, fun k => (hi.1 k).2⟩
theorem LabT.nonneg {E : List T} {out : List Int} (s : LabT E out) : 0 ≤ out.sum := by
  refine sum_nonneg out (fun x hx => ?_)
  obtain ⟨i, hi, e⟩ := List.mem_iff_getElem.1 hx
  have := (s.low i (by omega) (by have := s.len; omega)).1
  rw [rd_getElem _ i hi, e] at this
  exact this
def StillTo (E : List T) (out : List Int) (i k : Int) : Prop := ∀ i' k' : Int, 0 ≤ i' → i' < E.length → 0 ≤ k' → k' < E.length → (i' < i ∨ i' = i ∧ k' < k) → ¬ (rd out k' < rd out i' ∧ at_ E i' ≠ at_ E k' ∧ Side E (at_ E i') (at_ E k'))
def PassT (E : List T) (out0 out : List Int) (ag : Bool) (i k : Int) : Prop := ag = true ∧ out.sum < out0.sum ∨ ag = false ∧ out = out0 ∧ StillTo E out0 i k
theorem ev_labels_l3 {n : Int} {E : List T} (h : OK n E) (out0 r : List Int) {i : Nat} (hi : i < E.length) (hk : ∀ out ag, LabT E out → PassT E out0 out ag ((i : Int) + 1) 0 → Ev (fun k => spec_l12Labels.l2 k out ag ((i : Int) + 1) n E) r) :
    ∀ (d j : Nat) (out : List Int) (ag : Bool), j + d = E.length → LabT E out → PassT E out0 out ag i j → Ev (fun k => spec_l12Labels.l3 k out ag i j n E) r
  | 0, j, out, ag, hd, l, p => by
    have hlE := h.length
    refine Ev.succ ?_
    simp only [spec_l12Labels.l3]
    refine Ev.neg (by omega) ?_
    rw [w64 (by omega)]
    refine hk out ag l ?_
    rcases p with p | ⟨p, e, q⟩
    · exact Or.inl p
    · exact Or.inr ⟨p, e, fun i' k' a1 a2 a3 a4 a5 => q i' k' a1 a2 a3 a4 (by omega)⟩
  | d + 1, j, out, ag, hd, l, p => by
    have hj : j < E.length := by omega
    have hlE := h.length
    have hln := l.len
    have ai : at_ E (i : Int) = E[i] := at_nat E i hi
    have aj : at_ E (j : Int) = E[j] := at_nat E j hj
    refine Ev.succ ?_
    simp only [spec_l12Labels.l3]
    rw [rd_T_nat E i hi, rd_T_nat E j hj, w64 (by omega)]
    refine Ev.pos (by omega) (Ev.pos (by omega) (Ev.pos (by omega) (Ev.pos (by omega) (Ev.pos (by omega) ?_))))
    have skip : ¬ (rd out j < rd out i ∧ at_ E (i : Int) ≠ at_ E (j : Int) ∧ Side E (at_ E i) (at_ E j)) → Ev (fun k => spec_l12Labels.l3 k out ag i ((j : Int) + 1) n E) r := fun hno => by
      have := ev_labels_l3 h out0 r hi hk d (j + 1) out ag (by omega) l (by
        rcases p with p | ⟨p, e, q⟩
        · exact Or.inl p
        · refine Or.inr ⟨p, e, fun i' k' a1 a2 a3 a4 a5 => ?_⟩
          by_cases e2 : i' = i ∧ k' = j
          · rw [e2.1, e2.2, ← e]; exact hno
          · exact q i' k' a1 a2 a3 a4 (by omega))
      exact_mod_cast this
    by_cases hlt : rd out (j : Int) < rd out (i : Int)
    · refine Ev.pos hlt (Ev.pos (by omega) (Ev.bind (ev_l12Side h (List.getElem_mem hi) (List.getElem_mem hj)) ?_))
      by_cases hs : E[i] ≠ E[j] ∧ Side E E[i] E[j]
      · refine Ev.pos (dec_t hs) ?_
        have l2 := l.set h (i := (i : Int)) (k := (j : Int)) (by omega) (by omega) (by omega) (by omega) hlt (by rw [ai, aj]; exact hs.2)
        have hsum : (out.set (i : Int).toNat (rd out j)).sum < out.sum := by
          rw [sum_set _ _ _ (by omega)]
          have : rd out (i : Int) = out[(i : Int).toNat]'(by omega) := rd_i out _ (by omega) (by omega)
          omega
        have := ev_labels_l3 h out0 r hi hk d (j + 1) _ true (by omega) l2 (Or.inl ⟨rfl, by
          rcases p with p | ⟨_, e, _⟩
          · omega
          · rw [e] at hsum; rw [e]; exact hsum⟩)
        exact_mod_cast this
      · refine Ev.neg (by rw [dec_f hs]; simp) (skip (fun k => hs ?_))
        rw [ai, aj] at k
        exact k.2
    · exact Ev.neg hlt (skip (fun k => hlt k.1))
theorem ev_labels_l2 {n : Int} {E : List T} (h : OK n E) (out0 r : List Int) (hk : ∀ out ag, LabT E out → PassT E out0 out ag E.length 0 → Ev (fun k => spec_l12Labels.l1 k out ag n E) r) :
    ∀ (d i : Nat) (out : List Int) (ag : Bool), i + d = E.length → LabT E out → PassT E out0 out ag i 0 → Ev (fun k => spec_l12Labels.l2 k out ag i n E) r
  | 0, i, out, ag, hd, l, p => by
    refine Ev.succ ?_
    simp only [spec_l12Labels.l2]
    refine Ev.neg (by omega) (hk out ag l ?_)
    rw [show (E.length : Int) = (i : Int) by omega]
    exact p
  | d + 1, i, out, ag, hd, l, p => by
    refine Ev.succ ?_
    simp only [spec_l12Labels.l2]
    refine Ev.pos (by omega) ?_
    have := ev_labels_l3 h out0 r (i := i) (by omega) (fun out' ag' l' p' => by
      have := ev_labels_l2 h out0 r hk d (i + 1) out' ag' (by omega) l' (by exact_mod_cast p')
      exact_mod_cast this) E.length 0 out ag (by omega) l (by exact_mod_cast p)
    exact_mod_cast this
/-- The labels in the end. -/
def LabDone (E : List T) (out : List Int) : Prop := LabT E out ∧ Still E out
theorem LabDone.uniq {n : Int} {E : List T} (h : OK n E) {L M : List Int} (l : LabDone E L) (m : LabDone E M) : L = M := by
  refine ext_rd (by rw [l.1.len, m.1.len]) (fun x h0 hx => ?_)
  have hx' : x < E.length := by rw [← l.1.len]; exact hx
  have hm := m.1.low x h0 hx'
  exact (l.1.eq_iff h l.2 hm.1 (by omega) h0 hx' (m.1.fst h m.2 h0 hx')).2 (m.1.bl x h0 hx')
theorem labDone_ex {n : Int} {E : List T} (h : OK n E) : ∀ (m : Nat) (out : List Int), LabT E out → out.sum ≤ m → ∃ L, LabDone E L := by
  intro m
  induction m with
  | zero =>
    intro out l hm
    refine ⟨out, l, fun i k h0 h1 h2 h3 q => ?_⟩
    have l2 := l.set h h0 h1 h2 h3 q.1 q.2.2
    have hsum : (out.set i.toNat (rd out k)).sum < out.sum := by
      rw [sum_set _ _ _ (by rw [l.len]; omega)]
      have : rd out i = out[i.toNat]'(by rw [l.len]; omega) := rd_i out _ h0 (by rw [l.len]; exact h1)
      have := q.1
      omega
    have := l2.nonneg
    omega
  | succ m ih =>
    intro out l hm
    by_cases s : Still E out
    · exact ⟨out, l, s⟩
    · unfold Still at s
      simp only [Classical.not_forall, Classical.not_not] at s
      obtain ⟨i, k, h0, h1, h2, h3, q⟩ := s
      have l2 := l.set h h0 h1 h2 h3 q.1 q.2.2
      have hsum : (out.set i.toNat (rd out k)).sum < out.sum := by
        rw [sum_set _ _ _ (by rw [l.len]; omega)]
        have : rd out i = out[i.toNat]'(by rw [l.len]; omega) := rd_i out _ h0 (by rw [l.len]; exact h1)
        have := q.1
        omega
      exact ih _ l2 (by omega)
theorem ev_labels_l1 {n : Int} {E : List T} (h : OK n E) {L : List Int} (hL : LabDone E L) : ∀ (m : Nat) (out : List Int), LabT E out → out.sum ≤ m → Ev (fun k => spec_l12Labels.l1 k out true n E) L
  | m, out, l, hm => by
    refine Ev.succ ?_
    simp only [spec_l12Labels.l1]
    refine Ev.pos trivial ?_
    have := ev_labels_l2 h out L (fun out' ag l' p => ?_) E.length 0 out false (by omega) l (Or.inr ⟨rfl, rfl, fun i' k' a1 a2 a3 a4 a5 => by omega⟩)
    · exact_mod_cast this
    · rcases p with ⟨rfl, p⟩ | ⟨rfl, rfl, p⟩
      · cases m with
        | zero => have := l'.nonneg; omega
        | succ m => exact ev_labels_l1 h hL m out' l' (by omega)
      · refine Ev.succ ?_
        simp only [spec_l12Labels.l1]
        refine Ev.neg (by simp) (Ev.some_ ?_)
        exact (hL.uniq h ⟨l', fun i k a1 a2 a3 a4 => p i k a1 a2 a3 a4 (by omega)⟩).symm
theorem ev_labels_l0 {n : Int} {E : List T} (h : OK n E) {L : List Int} (hL : LabDone E L) : ∀ (d i : Nat), i + d = E.length → Ev (fun k => spec_l12Labels.l0 k (ks i) i n E) L
  | 0, i, hd => by
    refine Ev.succ ?_
    simp only [spec_l12Labels.l0]
    refine Ev.neg (by omega) ?_
    rw [show (i : Int) = E.length by omega]
    have l := LabT.start h
    exact ev_labels_l1 h hL (ks E.length).sum.toNat _ l (by have := l.nonneg; omega)
  | d + 1, i, hd => by
    have hlE := h.length
    refine Ev.succ ?_
    simp only [spec_l12Labels.l0]
    refine Ev.pos (by omega) (Ev.pos (by rw [ks_length]; omega) ?_)
    rw [w64 (by omega), ← ks_succ (by omega)]
    have := ev_labels_l0 h hL d (i + 1) (by omega)
    exact_mod_cast this
theorem ev_l12Labels {n : Int} {E : List T} (h : OK n E) : ∃ L, Ev (fun k => spec_l12Labels.f k n E) L ∧ LabDone E L := by
  have l := LabT.start h
  obtain ⟨L, hL⟩ := labDone_ex h (ks E.length).sum.toNat _ l (by have := l.nonneg; omega)
  refine ⟨L, ?_, hL⟩
  simp only [spec_l12Labels.f]
  exact ev_labels_l0 h hL E.length 0 (by omega)
end Go.Proofs.Ytffflhmblelegaa.Th
namespace Go.Proofs.Ytffflhmblelegaa.Th
open Go.RowKit Go.Proofs.YtffflhmblelegaaW.PrintWords Go.Proofs.YtffflhmblelegaaW.PrintLast Go.Proofs.YtffflhmblelegaaW.PrintMore Go.Proofs.Ytffflhmblelegaa.F
theorem ev_less_loop (n : Int) (E gone : List T) (hE : E.length ≤ 1048576) (hg : gone.length ≤ 1048576) : ∀ (d i : Nat) (out : List T), i + d = E.length → out.length ≤ i →
    Ev (fun k => impl_Net_less.l0 k gone E E.length i n out) (n, out ++ less (E.drop i) (· ∈ gone))
  | 0, i, out, h, _ => by
    refine Ev.succ ?_
    simp only [impl_Net_less.l0]
    refine Ev.neg (by omega) (Ev.some_ ?_)
    rw [List.drop_of_length_le (by omega)]
    simp [less]
  | d + 1, i, out, h, hl => by
    have hi : i < E.length := by omega
    refine Ev.succ ?_
    simp only [impl_Net_less.l0, rd_T_nat E i hi]
    refine Ev.pos (by omega) (Ev.pos (by omega) (Ev.pos (by omega) (Ev.bind (ev_contains gone E[i] hg) ?_)))
    rw [List.drop_eq_getElem_cons hi, w64 (by omega)]
    by_cases h0 : E[i] ∈ gone
    · rw [less_cons_pos h0]
      exact Ev.pos (dec_t h0) (ev_less_loop n E gone hE hg d (i + 1) out (by omega) (by omega))
    · rw [less_cons_neg h0]
      refine Ev.neg (by rw [dec_f h0]; simp) (Ev.pos (by omega) ?_)
      refine Ev.cast (ev_less_loop n E gone hE hg d (i + 1) (out ++ [E[i]]) (by omega) (by simp only [List.length_append, List.length_singleton]; omega)) ?_
      simp
theorem ev_less (n : Int) (E gone : List T) (hE : E.length ≤ 1048576) (hg : gone.length ≤ 1048576) : Ev (fun k => impl_Net_less.f k n E gone) (n, less E (· ∈ gone)) := by
  simp only [impl_Net_less.f]
  exact ev_less_loop n E gone hE hg E.length 0 [] (by omega) (by simp)
theorem less_one (E : List T) (t : T) : less E (· ∈ [t]) = less E (· = t) := less_congr (fun s _ => by simp)
end Go.Proofs.Ytffflhmblelegaa.Th
namespace Go.Proofs.Ytffflhmblelegaa.Th
open Go.RowKit Go.Proofs.YtffflhmblelegaaW.PrintWords Go.Proofs.YtffflhmblelegaaW.PrintLast Go.Proofs.YtffflhmblelegaaW.PrintMore Go.Proofs.Ytffflhmblelegaa.F Classical
/-- The map holds just these ties. -/
def HoldsP (s : Int) (P : T → Prop) : Prop := ∀ t : T, mpIn t.f0 t.f1 → mpBit s t.f0 t.f1 = dec (P t)
theorem holdsP_nil : HoldsP 0 (fun _ => False) := fun t _ => by rw [mpBit_zero, dec_f (by simp)]
theorem HoldsP.add {s : Int} {P : T → Prop} (h : HoldsP s P) {t : T} (ht : mpIn t.f0 t.f1) : HoldsP (mpSet s t.f0 t.f1) (fun u => P u ∨ u = t) := fun u hu => by
  rw [mpBit_set ht hu, h u hu]
  refine dec_of ?_
  rw [Bool.or_eq_true, dec_iff, decide_eq_true_eq]
  exact or_congr_right ⟨fun k => T.ext k.1 k.2, fun k => by rw [k]; exact ⟨rfl, rfl⟩⟩
theorem HoldsP.congr {s : Int} {P Q : T → Prop} (h : HoldsP s P) (e : ∀ t, P t ↔ Q t) : HoldsP s Q := fun t ht => by rw [h t ht]; exact dec_congr (e t)
theorem mpIn_mem {n : Int} {E : List T} (h : OK n E) {t : T} (ht : t ∈ E) : mpIn t.f0 t.f1 := by
  have := h.tie t ht
  have := h.n8
  unfold mpIn
  omega
theorem mpIn_tie {n : Int} {E : List T} (h : OK n E) {a b : Int} (ha : In n a) (hb : In n b) : mpIn (tie a b).f0 (tie a b).f1 := by
  have := h.n8
  unfold In at ha hb
  unfold mpIn tie
  split <;> simp <;> omega
theorem mapAdd_eq {s : Int} {t : T} (ht : mpIn t.f0 t.f1) : impl_mapAdd.f s t.f0 t.f1 = some (mpSet s t.f0 t.f1) := by unfold impl_mapAdd.f; rw [if_pos ht]
theorem mapHas_eq {s : Int} {P : T → Prop} (h : HoldsP s P) {t : T} (ht : mpIn t.f0 t.f1) : impl_mapHas.f s t.f0 t.f1 = some (dec (P t), s) := by unfold impl_mapHas.f; rw [if_pos ht, h t ht]
theorem rdL_W (R : List (List Int)) (j : Nat) (hj : j < R.length) : rd_L2 R (j : Int) = R[j] := by
  unfold rd_L2
  rw [List.getD_eq_getElem?_getD, Int.toNat_natCast, List.getElem?_eq_getElem hj]
  rfl
theorem ev_block_l1 {n : Int} {E : List T} (h : OK n E) {W : List (List Int)} {w : List Int} (hin : ∀ v ∈ w, In n v) (hl : w.length ≤ 8) {x : Nat} (hx : x < W.length) (hW : W.length ≤ 1000000000) {r : List T} :
    ∀ (d i : Nat) (s : Int) (P : T → Prop), 1 ≤ i → (i + d = w.length ∨ d = 0 ∧ w.length ≤ i) → HoldsP s P →
      (∀ s', HoldsP s' (fun u => P u ∨ u ∈ es (w.drop (i - 1))) → Ev (fun k => impl_Net_block.l0 k W W.length ((x : Int) + 1) n E s') r) →
      Ev (fun k => impl_Net_block.l1 k w i W W.length x n E s) r
  | 0, i, s, P, h1, hd, hs, hnext => by
    refine Ev.succ ?_
    simp only [impl_Net_block.l1]
    refine Ev.neg (by omega) ?_
    rw [w64 (by omega)]
    refine hnext s (hs.congr (fun u => ?_))
    have e : es (w.drop (i - 1)) = [] := by
      have hle : (w.drop (i - 1)).length ≤ 1 := by rw [List.length_drop]; omega
      match w.drop (i - 1), hle with
      | [], _ => rfl
      | [_], _ => rfl
      | _ :: _ :: _, hle => simp at hle
    rw [e]; simp
  | d + 1, i, s, P, h1, hd, hs, hnext => by
    obtain ⟨j, rfl⟩ : ∃ j, i = j + 1 := ⟨i - 1, by omega⟩
    have hj1 : j + 1 < w.length := by omega
    have e2 : es (w.drop (j + 1 - 1)) = tie w[j] w[j + 1] :: es (w.drop (j + 1 + 1 - 1)) := by
      rw [show j + 1 - 1 = j by omega, show j + 1 + 1 - 1 = j + 1 by omega, List.drop_eq_getElem_cons (by omega : j < w.length), List.drop_eq_getElem_cons hj1]
      rfl
    rw [e2] at hnext
    have hm := mpIn_tie h (hin w[j] (List.getElem_mem _)) (hin w[j + 1] (List.getElem_mem _))
    refine Ev.succ ?_
    simp only [impl_Net_block.l1]
    rw [w64 (x := ((j + 1 : Nat) : Int) - 1) (by omega), show ((j + 1 : Nat) : Int) - 1 = (j : Int) by omega, rd_getElem w j (by omega), rd_getElem w (j + 1) hj1]
    refine Ev.pos (by omega) (Ev.pos (by omega) (Ev.pos (by omega) (Ev.pos (by omega) (Ev.bind0 (impl_tie_eq _ _) (Ev.bind0 (mapAdd_eq hm) ?_)))))
    rw [w64 (by omega), show ((j + 1 : Nat) : Int) + 1 = ((j + 1 + 1 : Nat) : Int) by omega]
    refine ev_block_l1 h hin hl hx hW d (j + 1 + 1) _ _ (by omega) (by omega) (hs.add hm) (fun s' h3 => hnext s' (h3.congr (fun u => ?_)))
    rw [List.mem_cons]
    exact ⟨fun k => k.elim (fun k => k.elim Or.inl (fun e => Or.inr (Or.inl e))) (fun k => Or.inr (Or.inr k)), fun k => k.elim (fun k => Or.inl (Or.inl k)) (fun k => k.elim (fun e => Or.inl (Or.inr e)) Or.inr)⟩
theorem ev_block_l2 {n : Int} {E : List T} (h : OK n E) {s : Int} {P : T → Prop} (hs : HoldsP s P) : ∀ (d i : Nat) (out : List T), i + d = E.length → out.length ≤ i →
    Ev (fun k => impl_Net_block.l2 k out E E.length i s) (out ++ (E.drop i).filter (fun t => dec (P t)))
  | 0, i, out, hd, _ => by
    rw [List.drop_of_length_le (by omega), List.filter_nil, List.append_nil]
    refine Ev.succ ?_
    simp only [impl_Net_block.l2]
    exact Ev.neg (by omega) (Ev.now _)
  | d + 1, i, out, hd, ho => by
    have hl := h.length
    have hi : i < E.length := by omega
    have hm := mpIn_mem h (List.getElem_mem hi)
    rw [List.drop_eq_getElem_cons hi]
    refine Ev.succ ?_
    simp only [impl_Net_block.l2]
    rw [rd_T_nat E i hi]
    refine Ev.pos (by omega) (Ev.pos (by omega) (Ev.pos (by omega) (Ev.bind0 (mapHas_eq hs hm) ?_)))
    rw [w64 (by omega)]
    by_cases hp : P E[i]
    · rw [List.filter_cons_of_pos (p := fun t => dec (P t)) (dec_t hp)]
      have := ev_block_l2 h hs d (i + 1) (out ++ [E[i]]) (by omega) (by simp; omega)
      rw [List.append_assoc] at this
      exact Ev.pos (dec_t hp) (Ev.pos (by omega) (by exact_mod_cast this))
    · rw [List.filter_cons_of_neg (p := fun t => dec (P t)) (by rw [dec_f hp]; simp)]
      have := ev_block_l2 h hs d (i + 1) out (by omega) (by omega)
      exact Ev.neg (by rw [dec_f hp]; simp) (by exact_mod_cast this)
theorem ev_block_l0 {n : Int} {E : List T} (h : OK n E) {W : List (List Int)} (hin : ∀ w ∈ W, w.length ≤ 8 ∧ ∀ v ∈ w, In n v) (hW : W.length ≤ 1000000000) {r : List T} :
    ∀ (d i : Nat) (s : Int) (P : T → Prop), i + d = W.length → HoldsP s P →
      (∀ s', HoldsP s' (fun u => P u ∨ ∃ w ∈ W.drop i, u ∈ es w) → Ev (fun k => impl_Net_block.l2 k [] E E.length 0 s') r) →
      Ev (fun k => impl_Net_block.l0 k W W.length i n E s) r
  | 0, i, s, P, hd, hs, hnext => by
    refine Ev.succ ?_
    simp only [impl_Net_block.l0]
    refine Ev.neg (by omega) (hnext s (hs.congr (fun u => ?_)))
    rw [List.drop_of_length_le (by omega)]; simp
  | d + 1, i, s, P, hd, hs, hnext => by
    have hi : i < W.length := by omega
    have hw := hin _ (List.getElem_mem hi)
    refine Ev.succ ?_
    simp only [impl_Net_block.l0]
    rw [rdL_W W i hi]
    refine Ev.pos (by omega) (Ev.pos (by omega) (Ev.pos (by omega) ?_))
    have key := ev_block_l1 h (W := W) hw.2 hw.1 hi hW (r := r) (W[i].length - 1) 1 s P (by omega) (by omega) hs (fun s' h3 => ?_)
    · exact key
    · have := ev_block_l0 h hin hW d (i + 1) s' _ (by omega) h3 (fun s2 h4 => hnext s2 (h4.congr (fun u => ?_)))
      · exact_mod_cast this
      · rw [List.drop_eq_getElem_cons hi, show 1 - 1 = 0 by omega, List.drop_zero]
        constructor
        · rintro ((k | k) | ⟨w, hw, k⟩)
          · exact Or.inl k
          · exact Or.inr ⟨_, List.mem_cons.2 (Or.inl rfl), k⟩
          · exact Or.inr ⟨w, List.mem_cons_of_mem _ hw, k⟩
        · rintro (k | ⟨w, hw, k⟩)
          · exact Or.inl (Or.inl k)
          · rcases List.mem_cons.1 hw with e | e
            · subst e; exact Or.inl (Or.inr k)
            · exact Or.inr ⟨w, e, k⟩
theorem ev_block {n : Int} {E : List T} (h : OK n E) {t : T} (ht : t ∈ E) : Ev (fun k => impl_Net_block.f k n E t.f0 t.f1) (blockL E t) := by
  have hE := h.length
  have hte := h.tie t ht
  have h0 : In n t.f0 := ⟨by omega, by omega⟩
  have hl := h.less (· = t)
  have hlen := allW_len (b := t.f1) hl h0
  have hm := mpIn_mem h ht
  have hnew : impl_mapNew.f = some 0 := rfl
  simp only [impl_Net_block.f]
  refine Ev.bind0 hnew (Ev.bind0 (mapAdd_eq hm) (Ev.bind (ev_less n E [t] (by omega) (by simp)) ?_))
  rw [less_one]
  refine Ev.bind (ev_all (b := t.f1) hl h0) ?_
  have key := ev_block_l0 h (W := allW n (less E (· = t)) t.f0 t.f1) (fun w hw => ⟨hlen.2 w hw, fun v hv => ((mem_allW hl h0).1 hw).conn_mem hv |>.inNet hl h0⟩) hlen.1 (r := blockL E t) _ 0 (mpSet 0 t.f0 t.f1) _ (Nat.zero_add _) (holdsP_nil.add hm) (fun s' h3 => ?_)
  · exact_mod_cast key
  · have := ev_block_l2 h h3 E.length 0 [] (by omega) (by simp)
    rw [List.drop_zero, List.nil_append] at this
    refine Ev.cast (by exact_mod_cast this) ?_
    unfold blockL
    refine List.filter_congr (fun s hs => dec_congr ?_)
    rw [← cc_iff h ht hs]
    unfold CC
    constructor
    · rintro ((k | k) | ⟨w, hw, k⟩)
      · exact k.elim
      · exact Or.inl k
      · exact Or.inr ⟨w, (mem_allW hl h0).1 hw, k⟩
    · rintro (k | ⟨w, p, k⟩)
      · exact Or.inl (Or.inr k)
      · exact Or.inr ⟨w, (mem_allW hl h0).2 p, k⟩
/-- Of any net. -/
noncomputable def blockList (n : Int) (E : List T) : List (List T) := if OK n E then blocksL E else []
theorem blockList_len (n : Int) (E : List T) (_hE : E.length ≤ 1048576) : (blockList n E).length ≤ E.length ∧ ∀ b ∈ blockList n E, b.length ≤ E.length := by
  unfold blockList
  split
  · refine ⟨blocksL_length E, fun b hb => ?_⟩
    unfold blocksL at hb
    obtain ⟨t, _, rfl⟩ := List.mem_map.1 hb
    exact blockL_length E t
  · simp
theorem ev_BlockListE_l1 {n : Int} {E : List T} (h : OK n E) {L : List Int} (hL : LabDone E L) {x : Nat} (hx : x < E.length) (hf : Fst E E[x]) {out : List (List T)} (ho : out.length ≤ 64) {r : List (List T)} (hk : Ev (fun k => spec_BlockList.l0 k (out ++ [blockL E E[x]]) L ((x : Int) + 1) n E) r) :
    ∀ (d i : Nat) (acc : List T), i + d = E.length → acc.length ≤ i → acc ++ (E.drop i).filter (fun s => dec (Bl E E[x] s)) = blockL E E[x] → Ev (fun k => spec_BlockList.l1 k out L x acc i n E) r
  | 0, i, acc, hd, ha, he => by
    have hlE := h.length
    have hln := hL.1.len
    refine Ev.succ ?_
    simp only [spec_BlockList.l1]
    refine Ev.neg (by omega) (Ev.pos (by omega) ?_)
    rw [List.drop_of_length_le (by omega), List.filter_nil, List.append_nil] at he
    rw [w64 (by omega), he]
    exact hk
  | d + 1, i, acc, hd, ha, he => by
    have hi : i < E.length := by omega
    have hlE := h.length
    have hln := hL.1.len
    have hiff : rd L (i : Int) = (x : Int) ↔ Bl E E[x] E[i] := by
      have := hL.1.eq_iff h hL.2 (i := (x : Int)) (k := (i : Int)) (by omega) (by omega) (by omega) (by omega) (by rw [at_nat E x hx]; exact hf)
      rwa [at_nat E x hx, at_nat E i hi] at this
    have e1 : E.drop i = E[i] :: E.drop (i + 1) := List.drop_eq_getElem_cons hi
    rw [e1] at he
    refine Ev.succ ?_
    simp only [spec_BlockList.l1]
    rw [rd_T_nat E i hi, w64 (by omega)]
    refine Ev.pos (by omega) (Ev.pos (by omega) ?_)
    by_cases k : Bl E E[x] E[i]
    · rw [List.filter_cons_of_pos (p := fun s => dec (Bl E E[x] s)) (dec_t k)] at he
      refine Ev.pos (hiff.2 k) (Ev.pos (by omega) (Ev.pos (by omega) ?_))
      have := ev_BlockListE_l1 h hL hx hf ho hk d (i + 1) (acc ++ [E[i]]) (by omega) (by simp; omega) (by rw [List.append_assoc]; exact he)
      exact_mod_cast this
    · rw [List.filter_cons_of_neg (p := fun s => dec (Bl E E[x] s)) (by rw [dec_f k]; simp)] at he
      refine Ev.neg (fun q => k (hiff.1 q)) ?_
      have := ev_BlockListE_l1 h hL hx hf ho hk d (i + 1) acc (by omega) (by omega) he
      exact_mod_cast this
theorem ev_BlockListE_l0 {n : Int} {E : List T} (h : OK n E) {L : List Int} (hL : LabDone E L) : ∀ (d i : Nat) (out : List (List T)), i + d = E.length → out.length ≤ i →
    Ev (fun k => spec_BlockList.l0 k out L i n E) (out ++ ((E.drop i).filter (fun t => dec (Fst E t))).map (blockL E))
  | 0, i, out, hd, ho => by
    have hln := hL.1.len
    refine Ev.succ ?_
    simp only [spec_BlockList.l0]
    refine Ev.neg (by omega) (Ev.some_ ?_)
    rw [List.drop_of_length_le (by omega)]; simp
  | d + 1, i, out, hd, ho => by
    have hi : i < E.length := by omega
    have hlE := h.length
    have hln := hL.1.len
    have hself : rd L (i : Int) = (i : Int) ↔ Fst E E[i] := by
      have := hL.1.self_iff h hL.2 (i := (i : Int)) (by omega) (by omega)
      rwa [at_nat E i hi] at this
    have e1 : E.drop i = E[i] :: E.drop (i + 1) := List.drop_eq_getElem_cons hi
    rw [e1]
    refine Ev.succ ?_
    simp only [spec_BlockList.l0]
    refine Ev.pos (by omega) (Ev.pos (by omega) ?_)
    by_cases k : Fst E E[i]
    · rw [List.filter_cons_of_pos (p := fun t => dec (Fst E t)) (dec_t k), List.map_cons]
      refine Ev.pos (hself.2 k) ?_
      have := ev_BlockListE_l0 h hL d (i + 1) (out ++ [blockL E E[i]]) (by omega) (by simp; omega)
      rw [List.append_assoc] at this
      have key := ev_BlockListE_l1 h hL hi k (out := out) (by omega) (by exact_mod_cast this) E.length 0 [] (by omega) (by simp) (by rw [List.drop_zero, List.nil_append]; rfl)
      exact_mod_cast key
    · rw [List.filter_cons_of_neg (p := fun t => dec (Fst E t)) (by rw [dec_f k]; simp)]
      refine Ev.neg (fun q => k (hself.1 q)) ?_
      rw [w64 (by omega)]
      have := ev_BlockListE_l0 h hL d (i + 1) out (by omega) (by omega)
      exact_mod_cast this
theorem ev_spec_BlockList (n : Int) (E : List T) (hE : E.length ≤ 1048576) (hw : WF E) : Ev (fun k => spec_BlockList.f k n E) (blockList n E) := by
  simp only [spec_BlockList.f]
  refine Ev.bind0 (a := []) rfl (Ev.bind (ev_spec_NetOk n E hE hw) ?_)
  unfold blockList
  by_cases h : OK n E
  · rw [if_pos h]
    obtain ⟨L, h1, h2⟩ := ev_l12Labels h
    refine Ev.pos (dec_t h) (Ev.bind h1 ?_)
    have := ev_BlockListE_l0 h h2 E.length 0 [] (by omega) (by simp)
    rw [List.drop_zero, List.nil_append] at this
    exact_mod_cast this
  · rw [if_neg h]
    exact Ev.neg (by rw [dec_f h]; simp) (Ev.now _)
theorem beqT (b s : T) : (b.f0 == s.f0 && (b.f1 == s.f1)) = dec (b = s) := by
  by_cases e : b = s
  · subst e; rw [dec_t rfl]; simp
  · rw [dec_f e]
    cases b with
    | mk b0 b1 =>
      cases s with
      | mk s0 s1 =>
        simp only [Bool.and_eq_false_iff, beq_eq_false_iff_ne]
        by_cases e0 : b0 = s0
        · exact Or.inr (fun e1 => e (by rw [e0, e1]))
        · exact Or.inl e0
theorem rdLt_s (R : List (List T)) (j : Nat) (hj : j < R.length) : rd_L4 R (j : Int) = R[j] := by
  unfold rd_L4
  rw [Int.toNat_natCast, List.getD_eq_getElem?_getD, List.getElem?_eq_getElem hj]
  rfl
theorem ev_bsame_l1 {s t : T} {R : List (List T)} {i : Nat} (hi : i < R.length) (hR : R.length ≤ 1000) (hr : R[i].length ≤ 1000) {r : Bool} : ∀ (d j : Nat) (p q : Bool), j + d = R[i].length →
    ((p || dec (s ∈ R[i].drop j)) = true → (q || dec (t ∈ R[i].drop j)) = true → r = true) →
    (¬ ((p || dec (s ∈ R[i].drop j)) = true ∧ (q || dec (t ∈ R[i].drop j)) = true) → Ev (fun k => spec_BlockSame.l0 k R ((i : Int) + 1) s.f0 s.f1 t.f0 t.f1) r) →
    Ev (fun k => spec_BlockSame.l1 k R i p q j s.f0 s.f1 t.f0 t.f1) r
  | 0, j, p, q, hd, h1, h2 => by
    rw [List.drop_of_length_le (by omega), dec_f (p := s ∈ ([] : List T)) (by simp), dec_f (p := t ∈ ([] : List T)) (by simp), Bool.or_false, Bool.or_false] at h1 h2
    refine Ev.succ ?_
    simp only [spec_BlockSame.l1]
    rw [rdLt_s R i hi, w64 (x := (i : Int) + 1) (by omega)]
    refine Ev.pos (by omega) (Ev.pos (by omega) (Ev.neg (by omega) ?_))
    by_cases hp : p = true
    · refine Ev.pos hp ?_
      by_cases hq : q = true
      · exact Ev.pos hq (Ev.some_ (h1 hp hq).symm)
      · exact Ev.neg hq (h2 (fun k => hq k.2))
    · exact Ev.neg hp (h2 (fun k => hp k.1))
  | d + 1, j, p, q, hd, h1, h2 => by
    have hj : j < R[i].length := by omega
    have e1 : R[i].drop j = R[i][j] :: R[i].drop (j + 1) := List.drop_eq_getElem_cons hj
    have es : ∀ (u : T) (c : Bool), (c || dec (u ∈ R[i].drop j)) = ((c || dec (R[i][j] = u)) || dec (u ∈ R[i].drop (j + 1))) := fun u c => by
      rw [e1, Bool.or_assoc]
      congr 1
      by_cases k : R[i][j] = u
      · rw [dec_t k, dec_t (by rw [← k]; exact List.mem_cons.2 (Or.inl rfl))]; rfl
      · rw [dec_f k, Bool.false_or]
        exact dec_congr ⟨fun m => (List.mem_cons.1 m).elim (fun e => absurd e.symm k) id, fun m => List.mem_cons_of_mem _ m⟩
    rw [es s p, es t q] at h1 h2
    have ih : Ev (fun k => spec_BlockSame.l1 k R i (p || dec (R[i][j] = s)) (q || dec (R[i][j] = t)) ((j + 1 : Nat) : Int) s.f0 s.f1 t.f0 t.f1) r := ev_bsame_l1 hi hR hr d (j + 1) _ _ (by omega) h1 h2
    have hw : wrap64 ((j : Int) + 1) = ((j + 1 : Nat) : Int) := by rw [w64 (by omega)]; omega
    refine Ev.succ ?_
    simp only [spec_BlockSame.l1]
    rw [rdLt_s R i hi, rd_T_nat R[i] j hj, beqT, beqT, hw]
    refine Ev.pos (by omega) (Ev.pos (by omega) (Ev.pos (by omega) ?_))
    cases p <;> cases q
    · rw [Bool.false_or, Bool.false_or] at ih
      exact Ev.neg (by simp) (Ev.pos (by omega) (Ev.neg (by simp) ih))
    · rw [Bool.false_or, Bool.true_or] at ih
      exact Ev.neg (by simp) (Ev.pos (by omega) (Ev.pos rfl ih))
    · rw [Bool.true_or, Bool.false_or] at ih
      exact Ev.pos rfl (Ev.neg (by simp) (Ev.pos (by omega) ih))
    · rw [Bool.true_or, Bool.true_or] at ih
      exact Ev.pos rfl (Ev.pos rfl ih)
theorem ev_bsame_l0 {s t : T} {R : List (List T)} (hR : R.length ≤ 1000) (hr : ∀ b ∈ R, b.length ≤ 1000) : ∀ (d i : Nat), i + d = R.length → Ev (fun k => spec_BlockSame.l0 k R i s.f0 s.f1 t.f0 t.f1) (dec (∃ b ∈ R.drop i, s ∈ b ∧ t ∈ b))
  | 0, i, hd => by
    refine Ev.succ ?_
    simp only [spec_BlockSame.l0]
    refine Ev.neg (by omega) (Ev.some_ ?_)
    rw [List.drop_of_length_le (by omega)]
    exact (dec_f (by simp)).symm
  | d + 1, i, hd => by
    have hi : i < R.length := by omega
    have e1 : R.drop i = R[i] :: R.drop (i + 1) := List.drop_eq_getElem_cons hi
    refine Ev.succ ?_
    simp only [spec_BlockSame.l0]
    refine Ev.pos (by omega) ?_
    have key := ev_bsame_l1 (s := s) (t := t) hi hR (hr _ (List.getElem_mem hi)) (r := dec (∃ b ∈ R.drop i, s ∈ b ∧ t ∈ b)) R[i].length 0 false false (by omega) (fun a b => ?_) (fun k => ?_)
    · exact_mod_cast key
    · rw [Bool.false_or, List.drop_zero] at a b
      exact dec_t ⟨R[i], by rw [e1]; exact List.mem_cons.2 (Or.inl rfl), dec_iff.1 a, dec_iff.1 b⟩
    · rw [Bool.false_or, Bool.false_or, List.drop_zero] at k
      have := ev_bsame_l0 (s := s) (t := t) hR hr d (i + 1) (by omega)
      refine Ev.cast (by exact_mod_cast this) (dec_congr ?_)
      rw [e1]
      exact ⟨fun ⟨b, m, q⟩ => ⟨b, List.mem_cons_of_mem _ m, q⟩, fun ⟨b, m, q⟩ => (List.mem_cons.1 m).elim (fun e => absurd ⟨dec_t (e ▸ q.1), dec_t (e ▸ q.2)⟩ k) (fun m => ⟨b, m, q⟩)⟩
theorem both_iff {n : Int} {E : List T} {s t : T} : (∃ b ∈ blockList n E, s ∈ b ∧ t ∈ b) ↔ (OK n E ∧ s ∈ E ∧ t ∈ E ∧ Bl E s t) := by
  unfold blockList
  by_cases h : OK n E
  · rw [if_pos h]
    unfold blocksL
    constructor
    · rintro ⟨b, hb, h1, h2⟩
      obtain ⟨f, hf, rfl⟩ := List.mem_map.1 hb
      have hfE := (mem_firstsL.1 hf).1
      obtain ⟨s1, s2⟩ := mem_blockL.1 h1
      obtain ⟨t1, t2⟩ := mem_blockL.1 h2
      exact ⟨h, s1, t1, s2.symm.trans h hfE t2⟩
    · rintro ⟨_, hs, ht, b⟩
      obtain ⟨f, hf, kf, hb⟩ := first_ex h hs
      exact ⟨blockL E f, List.mem_map.2 ⟨f, mem_firstsL.2 ⟨hf, kf⟩, rfl⟩, mem_blockL.2 ⟨hs, hb⟩, mem_blockL.2 ⟨ht, hb.trans h hs b⟩⟩
  · rw [if_neg h]
    exact ⟨fun ⟨b, m, _⟩ => by simp at m, fun k => absurd k.1 h⟩
theorem ev_spec_BlockSame (n : Int) (E : List T) (s t : T) (hE : E.length ≤ 1048576) (hw : WF E) : Ev (fun k => spec_BlockSame.f k n E s.f0 s.f1 t.f0 t.f1) (dec (OK n E ∧ s ∈ E ∧ t ∈ E ∧ Bl E s t)) := by
  simp only [spec_BlockSame.f]
  refine Ev.bind (ev_spec_BlockList n E hE hw) ?_
  obtain ⟨z1, z2⟩ := blockList_len n E hE
  have hb : (blockList n E).length ≤ 1000 ∧ ∀ b ∈ blockList n E, b.length ≤ 1000 := by
    by_cases h : OK n E
    · have := h.length
      exact ⟨by omega, fun b hb => by have := z2 b hb; omega⟩
    · have e : blockList n E = [] := by unfold blockList; rw [if_neg h]
      rw [e]; simp
  have := ev_bsame_l0 (s := s) (t := t) hb.1 hb.2 (blockList n E).length 0 (by omega)
  rw [List.drop_zero, dec_congr both_iff] at this
  exact_mod_cast this
end Go.Proofs.Ytffflhmblelegaa.Th
namespace Go.Proofs.Ytffflhmblelegaa.Th
open Go.RowKit Go.Proofs.YtffflhmblelegaaW.PrintWords Go.Proofs.YtffflhmblelegaaW.PrintLast Go.Proofs.YtffflhmblelegaaW.PrintMore Go.Proofs.Ytffflhmblelegaa.F
theorem loTie_eq (a b : Int) : laws_loTie.f a b = some ((tie a b).f0, (tie a b).f1) := by
  unfold laws_loTie.f tie
  split <;> rfl
theorem ev_loHas_loop (l : List T) (t : T) (hl : l.length ≤ 1048576) : ∀ (d i : Nat), i + d = l.length → Ev (fun k => laws_loHas.l0 k l i t.f0 t.f1) (dec (t ∈ l.drop i))
  | 0, i, h => by
    refine Ev.succ ?_
    simp only [laws_loHas.l0]
    rw [List.drop_of_length_le (by omega)]
    exact Ev.neg (by omega) (Ev.ff (by simp) (Ev.now _))
  | d + 1, i, h => by
    have hi : i < l.length := by omega
    have ih := ev_loHas_loop l t hl d (i + 1) (by omega)
    refine Ev.succ ?_
    simp only [laws_loHas.l0]
    rw [rd_T_nat l i hi, List.drop_eq_getElem_cons hi]
    refine Ev.pos (by omega) (Ev.pos (by omega) ?_)
    by_cases e : l[i] = t
    · refine Ev.pos ?_ (Ev.tt (by rw [e]; exact List.mem_cons_self) (Ev.now _))
      rw [e]; simp
    · refine Ev.neg ?_ ?_
      · intro k
        simp only [Bool.and_eq_true, beq_iff_eq] at k
        exact e (T.ext k.1 k.2)
      · rw [w64 (by omega), show (i : Int) + 1 = ((i + 1 : Nat) : Int) by omega]
        refine Ev.cast ih (dec_congr ?_)
        rw [List.mem_cons]
        exact ⟨Or.inr, fun k => k.elim (fun k => absurd k.symm e) id⟩
theorem ev_loHas (l : List T) (t : T) (hl : l.length ≤ 1048576) : Ev (fun k => laws_loHas.f k l t.f0 t.f1) (dec (t ∈ l)) := by
  simp only [laws_loHas.f]
  exact Ev.cast (ev_loHas_loop l t hl l.length 0 (by omega)) (by rw [List.drop_zero])
end Go.Proofs.Ytffflhmblelegaa.Th
namespace Go.Proofs.Ytffflhmblelegaa.Th
open Go.RowKit Go.Proofs.YtffflhmblelegaaW.PrintWords Go.Proofs.YtffflhmblelegaaW.PrintLast Go.Proofs.YtffflhmblelegaaW.PrintMore Go.Proofs.Ytffflhmblelegaa.F Classical
theorem Path.two {E : List T} {a b : Int} (hab : a ≠ b) {w : List Int} (p : Path E a b w) : 2 ≤ w.length := by
  obtain ⟨r, rfl⟩ := p.cons_eq
  cases r with
  | nil => have := p.lst; simp at this; exact absurd this hab
  | cons c r => simp
theorem rdLi_g (R : List (List Int)) (j : Nat) (hj : j < R.length) : rd_L2 R (j : Int) = R[j] := by
  unfold rd_L2
  rw [Int.toNat_natCast, List.getD_eq_getElem?_getD, List.getElem?_eq_getElem hj]
  rfl
theorem es_drop (w : List Int) (j : Nat) (h : j + 1 < w.length) : es (w.drop j) = tie w[j] w[j + 1] :: es (w.drop (j + 1)) := by
  rw [List.drop_eq_getElem_cons (show j < w.length by omega), List.drop_eq_getElem_cons h]
  rfl
theorem es_last (w : List Int) (j : Nat) (h : j + 1 = w.length) : es (w.drop j) = [] := by
  rw [List.drop_eq_getElem_cons (show j < w.length by omega), List.drop_of_length_le (by omega)]
  rfl
theorem ev_loRing_l1 {t : T} {R : List (List Int)} {i : Nat} (hi : i < R.length) (hR : R.length ≤ 1000000000) (h3 : 2 < R[i].length) (h8 : R[i].length ≤ 8) {r : Bool} (hk : Ev (fun k => laws_loRing.l0 k R ((i : Int) + 1) t.f0 t.f1) r) : ∀ (d j : Nat), j + 1 + d = R[i].length → Ev (fun k => laws_loRing.l1 k R i ((j : Int) + 1) t.f0 t.f1) (dec (t ∈ es (R[i].drop j)) || r)
  | 0, j, hd => by
    rw [es_last _ j (by omega), dec_f (by simp), Bool.false_or]
    refine Ev.succ ?_
    simp only [laws_loRing.l1]
    rw [rdLi_g R i hi]
    refine Ev.pos (by omega) (Ev.pos (by omega) (Ev.neg (by omega) (Ev.succ ?_)))
    simp only [laws_loRing.j2]
    rw [w64 (x := (i : Int) + 1) (by omega)]
    exact Ev.neg (by simp) hk
  | d + 1, j, hd => by
    refine Ev.succ ?_
    simp only [laws_loRing.l1]
    rw [rdLi_g R i hi]
    refine Ev.pos (by omega) (Ev.pos (by omega) (Ev.pos (by omega) (Ev.succ ?_)))
    simp only [laws_loRing.j2]
    rw [rdLi_g R i hi, w64 (x := (j : Int) + 1 - 1) (by omega), show (j : Int) + 1 - 1 = (j : Int) by omega, show (j : Int) + 1 = ((j + 1 : Nat) : Int) by omega, rd_getElem R[i] j (by omega), rd_getElem R[i] (j + 1) (by omega)]
    refine Ev.pos (decide_eq_true (by omega)) (Ev.pos (by omega) (Ev.pos (by omega) (Ev.pos (by omega) (Ev.pos (by omega) (Ev.pos (by omega) (Ev.pos (by omega) (Ev.bind0 (loTie_eq _ _) ?_)))))))
    rw [es_drop R[i] j (by omega), beqT]
    by_cases e : tie R[i][j] R[i][j + 1] = t
    · refine Ev.pos (dec_t e) (Ev.some_ ?_)
      rw [dec_t (by rw [e]; exact List.mem_cons_self)]; rfl
    · refine Ev.neg (by rw [dec_f e]; simp) ?_
      rw [w64 (by omega)]
      refine Ev.cast (ev_loRing_l1 hi hR h3 h8 hk d (j + 1) (by omega)) ?_
      congr 1
      exact dec_congr ⟨fun m => List.mem_cons_of_mem _ m, fun m => (List.mem_cons.1 m).elim (fun k => absurd k.symm e) id⟩
theorem ev_loRing_l0 {t : T} {R : List (List Int)} (hR : R.length ≤ 1000000000) (hr : ∀ w ∈ R, 2 ≤ w.length ∧ w.length ≤ 8) : ∀ (d i : Nat), i + d = R.length → Ev (fun k => laws_loRing.l0 k R i t.f0 t.f1) (dec (∃ w ∈ R.drop i, 2 < w.length ∧ t ∈ es w))
  | 0, i, hd => by
    refine Ev.succ ?_
    simp only [laws_loRing.l0]
    refine Ev.neg (by omega) (Ev.some_ ?_)
    rw [List.drop_of_length_le (by omega)]
    exact (dec_f (by simp)).symm
  | d + 1, i, hd => by
    have hi : i < R.length := by omega
    obtain ⟨h2, h8⟩ := hr _ (List.getElem_mem hi)
    have e1 : R.drop i = R[i] :: R.drop (i + 1) := List.drop_eq_getElem_cons hi
    have ih : Ev (fun k => laws_loRing.l0 k R ((i : Int) + 1) t.f0 t.f1) (dec (∃ w ∈ R.drop (i + 1), 2 < w.length ∧ t ∈ es w)) := by
      have := ev_loRing_l0 (t := t) hR hr d (i + 1) (by omega)
      exact_mod_cast this
    refine Ev.succ ?_
    simp only [laws_loRing.l0]
    refine Ev.pos (by omega) ?_
    by_cases h3 : 2 < R[i].length
    · have := ev_loRing_l1 hi hR h3 h8 ih (R[i].length - 1) 0 (by omega)
      rw [show ((0 : Nat) : Int) + 1 = 1 by omega, List.drop_zero] at this
      refine Ev.cast this ?_
      rw [Bool.eq_iff_iff, Bool.or_eq_true, dec_iff, dec_iff, dec_iff, e1]
      constructor
      · rintro (m | ⟨w, hw, k⟩)
        · exact ⟨R[i], List.mem_cons_self, h3, m⟩
        · exact ⟨w, List.mem_cons_of_mem _ hw, k⟩
      · rintro ⟨w, hw, k1, k2⟩
        rcases List.mem_cons.1 hw with e | hw
        · exact Or.inl (e ▸ k2)
        · exact Or.inr ⟨w, hw, k1, k2⟩
    · refine Ev.succ ?_
      simp only [laws_loRing.l1]
      rw [rdLi_g R i hi]
      refine Ev.pos (by omega) (Ev.pos (by omega) (Ev.pos (by omega) (Ev.succ ?_)))
      simp only [laws_loRing.j2]
      rw [w64 (x := (i : Int) + 1) (by omega)]
      refine Ev.neg (by rw [decide_eq_false (by omega)]; simp) (Ev.cast ih (dec_congr ?_))
      rw [e1]
      constructor
      · rintro ⟨w, hw, k⟩
        exact ⟨w, List.mem_cons_of_mem _ hw, k⟩
      · rintro ⟨w, hw, k1, k2⟩
        rcases List.mem_cons.1 hw with e | hw
        · exact absurd (e ▸ k1) h3
        · exact ⟨w, hw, k1, k2⟩
theorem ev_loRing {n : Int} {E : List T} (h : OK n E) {s t : T} (hs : s ∈ E) (hE : E.length ≤ 1048576) : Ev (fun k => laws_loRing.f k n E s.f0 s.f1 t.f0 t.f1) (dec (∃ w ∈ allW n E s.f0 s.f1, 2 < w.length ∧ t ∈ es w)) := by
  have hse := h.tie s hs
  have h0 : In n s.f0 := ⟨by omega, by omega⟩
  have h1 : In n s.f1 := ⟨by omega, by omega⟩
  have hl := allW_len (b := s.f1) h h0
  simp only [laws_loRing.f]
  refine Ev.bind (a := allW n E s.f0 s.f1) ?_ ?_
  · simp only [impl_WayAll.f]
    exact Ev.bind (ev_impl_NetOk n E hE) (Ev.pos (dec_t h) (Ev.bind0 (knot_eq n E s.f0) (Ev.pos (dec_t h0) (Ev.bind0 (knot_eq n E s.f1) (Ev.pos (dec_t h1) (Ev.bind (ev_all h h0) (Ev.now _)))))))
  · have := ev_loRing_l0 (t := t) hl.1 (fun w hw => ⟨Path.two (show s.f0 ≠ s.f1 by omega) ((mem_allW h h0).1 hw), hl.2 w hw⟩) (allW n E s.f0 s.f1).length 0 (by omega)
    rw [List.drop_zero] at this
    exact_mod_cast this
end Go.Proofs.Ytffflhmblelegaa.Th
namespace Go.Proofs.Ytffflhmblelegaa.Th
open Go.RowKit Go.Proofs.YtffflhmblelegaaW.PrintWords Go.Proofs.YtffflhmblelegaaW.PrintLast Go.Proofs.YtffflhmblelegaaW.PrintMore Go.Proofs.Ytffflhmblelegaa.F
theorem l1Copy (n : Int) (E : List T) (hE : E.length ≤ 1048576) : spec_l1Copy.f n E = some (n, E) := by
  unfold spec_l1Copy.f
  simp only [Option.bind_some, List.nil_append, List.length_nil]
  rw [if_pos (by omega)]
theorem xor_nonneg {x y : Int} (hx : 0 ≤ x ∧ x < 4611686018427387904) (hy : 0 ≤ y ∧ y < 4611686018427387904) : 0 ≤ Go.bits .xor .i64 x y := by
  have hlt : x.toNat ^^^ y.toNat < 2 ^ 62 := Nat.xor_lt_two_pow (by omega) (by omega)
  have e : (BitVec.ofInt 64 x ^^^ BitVec.ofInt 64 y).toNat = x.toNat ^^^ y.toNat := by
    rw [BitVec.toNat_xor, BitVec.toNat_ofInt, BitVec.toNat_ofInt]
    congr 1 <;> omega
  unfold Go.bits
  show 0 ≤ Go.IntKind.wrap .i64 ((BitVec.ofInt 64 x ^^^ BitVec.ofInt 64 y).toNat : Int)
  rw [e]
  rw [i64_w, w64 (by omega)]
  omega
/-- Bytes that are read. -/
def Bytes (s : List Int) : Prop := s.length ≤ 2000 ∧ ∀ x ∈ s, 0 ≤ x ∧ x ≤ 255
theorem Bytes.rd {s : List Int} (h : Bytes s) {i : Int} (h0 : 0 ≤ i) (h1 : i < s.length) : 0 ≤ rd s i ∧ rd s i ≤ 255 := by
  rw [rd_i s i h0 h1]
  exact h.2 _ (List.getElem_mem _)
/-- A draw of a number below another one: what it reads is one step further on. -/
theorem ev_pick {s : List Int} (h : Bytes s) {p : Int} (hp : 0 ≤ p ∧ p ≤ 1000000) (m : Int) (hm : m ≤ 1000000000) : ∃ v, Ev (fun k => spec_l6Rd_pick.f k s p m) (v, p + 1) ∧ (1 ≤ m → 0 ≤ v ∧ v < m) ∧ 0 ≤ v ∧ (v < m ∨ v = 0) := by
  by_cases hb : m < 1 ∨ s.length = 0
  · refine ⟨0, ?_, fun _ => by omega, by omega, Or.inr rfl⟩
    simp only [spec_l6Rd_pick.f]
    rw [w64 (x := p + 1) (by omega)]
    have j : Ev (fun k => spec_l6Rd_pick.j0 k m true s (p + 1)) (0, p + 1) := by
      refine Ev.succ ?_
      simp only [spec_l6Rd_pick.j0]
      exact Ev.pos trivial (Ev.now _)
    by_cases h1 : m < 1
    · exact Ev.pos h1 j
    · refine Ev.neg h1 ?_
      have e : ((s.length : Int) == 0) = true := by rw [beq_iff_eq]; omega
      rw [e]; exact j
  · have h1 : ¬ m < 1 := fun k => hb (Or.inl k)
    have h2 : ¬ s.length = 0 := fun k => hb (Or.inr k)
    have e : ((s.length : Int) == 0) = false := by rw [beq_eq_false_iff_ne]; omega
    have hl := h.1
    by_cases hk : p < s.length
    · have hr := h.rd hp.1 hk
      have hv := Int.tmod_nonneg m hr.1
      have hv' := Int.tmod_lt_of_pos (rd s p) (show 0 < m by omega)
      refine ⟨Int.tmod (rd s p) m, ?_, fun _ => ⟨hv, hv'⟩, hv, Or.inl hv'⟩
      simp only [spec_l6Rd_pick.f]
      rw [w64 (x := p + 1) (by omega), e]
      refine Ev.neg h1 (Ev.succ ?_)
      simp only [spec_l6Rd_pick.j0]
      rw [show p + 1 - 1 = p by omega, w64 (x := p) (by omega), w64 (x := rd s p) (by omega)]
      exact Ev.neg (by simp) (Ev.pos hk (Ev.pos hp.1 (Ev.neg (by omega) (Ev.now _))))
    · have hL : (0 : Int) < s.length := by omega
      have a0 := Int.tmod_nonneg (s.length : Int) hp.1
      have a1 := Int.tmod_lt_of_pos p hL
      have b0 := Int.tmod_nonneg (s.length : Int) (show 0 ≤ p * 7 + 3 by omega)
      have b1 := Int.tmod_lt_of_pos (p * 7 + 3) hL
      have ra := h.rd a0 a1
      have rb := h.rd b0 b1
      have d0 := Int.tdiv_nonneg hp.1 (show 0 ≤ (s.length : Int) by omega)
      have d1 : Int.tdiv p s.length ≤ p := Int.tdiv_le_self _ hp.1
      generalize hA : rd s (Int.tmod p s.length) = A at ra
      generalize hB : rd s (Int.tmod (p * 7 + 3) s.length) = B at rb
      generalize hD : Int.tdiv p s.length = D at d0 d1
      have q0 := Int.tdiv_nonneg (show 0 ≤ A * 131 + B * 1117 + p * 29 + D * 53 by omega) (show (0 : Int) ≤ 64 by omega)
      have q1 : Int.tdiv (A * 131 + B * 1117 + p * 29 + D * 53) 64 ≤ A * 131 + B * 1117 + p * 29 + D * 53 := Int.tdiv_le_self _ (by omega)
      have hx := xor_nonneg (x := A * 131 + B * 1117 + p * 29 + D * 53) (y := Int.tdiv (A * 131 + B * 1117 + p * 29 + D * 53) 64) (by omega) (by omega)
      have hv := Int.tmod_nonneg m hx
      have hv' := Int.tmod_lt_of_pos (Go.bits .xor .i64 (A * 131 + B * 1117 + p * 29 + D * 53) (Int.tdiv (A * 131 + B * 1117 + p * 29 + D * 53) 64)) (show 0 < m by omega)
      refine ⟨_, ?_, fun _ => ⟨hv, hv'⟩, hv, Or.inl hv'⟩
      simp only [spec_l6Rd_pick.f]
      rw [w64 (x := p + 1) (by omega), e]
      refine Ev.neg h1 (Ev.succ ?_)
      simp only [spec_l6Rd_pick.j0]
      rw [show p + 1 - 1 = p by omega, w64 (x := p) (by omega), w64 (x := p * 7) (by omega), w64 (x := p * 7 + 3) (by omega)]
      refine Ev.neg (by simp) (Ev.neg hk (Ev.neg (by omega) (Ev.pos a0 (Ev.pos a1 (Ev.pos b0 (Ev.pos b1 (Ev.neg (by omega) ?_)))))))
      rw [hA, hB, hD, w64 (x := A) (by omega), w64 (x := A * 131) (by omega), w64 (x := B) (by omega), w64 (x := B * 1117) (by omega), w64 (x := A * 131 + B * 1117) (by omega), w64 (x := p * 29) (by omega), w64 (x := A * 131 + B * 1117 + p * 29) (by omega),
        w64 (x := D) (by omega), w64 (x := D * 53) (by omega), w64 (x := A * 131 + B * 1117 + p * 29 + D * 53) (by omega), w64 (x := Int.tdiv (A * 131 + B * 1117 + p * 29 + D * 53) 64) (by omega)]
      exact Ev.now _
theorem l6Open (s : List Int) (h : s.length ≤ maxLen ∧ ∀ x ∈ s, (Lit.int .u8 x).wf = true) : ∃ s', spec_l6Open.f s = some (s', 0) ∧ Bytes s' := by
  unfold spec_l6Open.f
  by_cases h1 : (s.length : Int) > 2000
  · rw [if_pos h1, if_pos (by omega)]
    exact ⟨_, rfl, by rw [List.length_take]; omega, fun x hx => wf_u8 (h.2 x (List.mem_of_mem_take hx))⟩
  · rw [if_neg h1]
    exact ⟨_, rfl, by omega, fun x hx => wf_u8 (h.2 x hx)⟩
/-- Ties with one more, in order. -/
def insT (t : T) : List T → List T
  | [] => [t]
  | s :: r => if lt t s then t :: s :: r else s :: insT t r
theorem mem_insT {t u : T} : ∀ {E : List T}, u ∈ insT t E ↔ u = t ∨ u ∈ E
  | [] => by simp [insT]
  | s :: r => by
    unfold insT
    split
    · simp
    · simp only [List.mem_cons, mem_insT (E := r)]
      constructor
      · rintro (h | h | h)
        · exact Or.inr (Or.inl h)
        · exact Or.inl h
        · exact Or.inr (Or.inr h)
      · rintro (h | h | h)
        · exact Or.inr (Or.inl h)
        · exact Or.inl h
        · exact Or.inr (Or.inr h)
theorem asc_insT {t : T} : ∀ {E : List T}, Asc E → t ∉ E → Asc (insT t E)
  | [], _, _ => by simp [insT, Asc]
  | s :: r, h, hn => by
    have hs := List.pairwise_cons.1 h
    unfold insT
    split
    · next hl =>
      refine List.pairwise_cons.2 ⟨fun u hu => ?_, h⟩
      rcases List.mem_cons.1 hu with rfl | hu
      · exact hl
      · exact lt_trans hl (hs.1 u hu)
    · next hl =>
      refine List.pairwise_cons.2 ⟨fun u hu => ?_, asc_insT hs.2 (fun k => hn (List.mem_cons_of_mem _ k))⟩
      rcases mem_insT.1 hu with rfl | hu
      · rcases lt_tri s u with k | k | k
        · exact k
        · exact absurd (by rw [k]; exact List.mem_cons_self) hn
        · exact absurd k hl
      · exact hs.1 u hu
theorem OK.ins {n : Int} {E : List T} (h : OK n E) {a b : Int} (ha : In n a) (hb : In n b) (hab : a ≠ b) (hn : ¬ Has E a b) : OK n (insT (Th.tie a b) E) := by
  refine ⟨h.n0, h.n8, fun t ht => ?_, asc_insT h.asc hn⟩
  rcases mem_insT.1 ht with rfl | ht
  · unfold In at ha hb
    unfold Th.tie
    split <;> dsimp only <;> omega
  · exact h.tie t ht
theorem ev_NetAdd_done {n : Int} {E : List T} (t : T) (hE : E.length ≤ 1048576) : ∀ (d i : Nat) (out : List T), i + d = E.length → out.length ≤ i + 1 → Ev (fun k => spec_NetAdd.l0 k true i n E n out t.f0 t.f1) (n, out ++ E.drop i, true)
  | 0, i, out, h, hl => by
    refine Ev.succ ?_
    simp only [spec_NetAdd.l0]
    refine Ev.neg (by omega) (Ev.pos trivial (Ev.some_ ?_))
    rw [List.drop_of_length_le (by omega)]; simp
  | d + 1, i, out, h, hl => by
    have hi : i < E.length := by omega
    refine Ev.succ ?_
    simp only [spec_NetAdd.l0, rd_T_nat E i hi]
    refine Ev.pos (by omega) (Ev.pos trivial (Ev.pos (by omega) (Ev.pos (by omega) ?_)))
    rw [w64 (by omega), List.drop_eq_getElem_cons hi]
    refine Ev.cast (ev_NetAdd_done (n := n) t hE d (i + 1) (out ++ [E[i]]) (by omega) (by simp only [List.length_append, List.length_singleton]; omega)) ?_
    simp
theorem ev_NetAdd_loop {n : Int} {E : List T} (t : T) (hE : E.length ≤ 1048576) : ∀ (d i : Nat) (out : List T), i + d = E.length → out.length ≤ i → Ev (fun k => spec_NetAdd.l0 k false i n E n out t.f0 t.f1) (n, out ++ insT t (E.drop i), true)
  | 0, i, out, h, hl => by
    refine Ev.succ ?_
    simp only [spec_NetAdd.l0]
    refine Ev.neg (by omega) (Ev.neg (by simp) (Ev.pos (by omega) (Ev.some_ ?_)))
    rw [List.drop_of_length_le (by omega)]; rfl
  | d + 1, i, out, h, hl => by
    have hi : i < E.length := by omega
    refine Ev.succ ?_
    simp only [spec_NetAdd.l0, rd_T_nat E i hi]
    refine Ev.pos (by omega) (Ev.neg (by simp) (Ev.pos (by omega) (Ev.bind0 (l1Less t E[i]) ?_)))
    rw [w64 (by omega), List.drop_eq_getElem_cons hi]
    unfold insT
    by_cases hlt : lt t E[i]
    · rw [if_pos hlt]
      refine Ev.pos (decide_eq_true hlt) (Ev.pos (by omega) (Ev.bind0 rfl (Ev.pos (by simp only [List.length_append, List.length_singleton]; omega) ?_)))
      refine Ev.cast (ev_NetAdd_done (n := n) t hE d (i + 1) (out ++ [t] ++ [E[i]]) (by omega) (by simp only [List.length_append, List.length_singleton]; omega)) ?_
      simp
    · rw [if_neg hlt]
      refine Ev.neg (by simp [hlt]) (Ev.pos (by omega) ?_)
      refine Ev.cast (ev_NetAdd_loop (n := n) t hE d (i + 1) (out ++ [E[i]]) (by omega) (by simp only [List.length_append, List.length_singleton]; omega)) ?_
      simp
/-- A tie may be added. -/
def MayAdd (n : Int) (E : List T) (a b : Int) : Prop := OK n E ∧ In n a ∧ In n b ∧ a ≠ b ∧ ¬ Has E a b
theorem ev_spec_NetAdd {n : Int} {E : List T} {a b : Int} (h : MayAdd n E a b) : Ev (fun k => spec_NetAdd.f k n E a b) (n, insT (tie a b) E, true) := by
  have hl := h.1.length
  simp only [spec_NetAdd.f]
  refine Ev.bind (ev_l1Knot n E a (by omega) h.1.wf) (Ev.pos (dec_t ⟨h.1, h.2.1⟩) (Ev.bind (ev_l1Knot n E b (by omega) h.1.wf) (Ev.pos (dec_t ⟨h.1, h.2.2.1⟩) (Ev.neg h.2.2.2.1 (Ev.bind (ev_spec_NetHas n E a b (by omega) h.1.wf) ?_)))))
  rw [dec_f (fun k => h.2.2.2.2 k.2)]
  refine Ev.succ ?_
  simp only [spec_NetAdd.j0]
  refine Ev.neg (by simp) (Ev.bind0 (l1Tie a b) ?_)
  exact ev_NetAdd_loop (tie a b) (by omega) E.length 0 [] (by omega) (by simp)
theorem ev_spec_NetAdd_not {n : Int} {E : List T} {a b : Int} (hE : E.length ≤ 1048576) (hw : WF E) (h : ¬ MayAdd n E a b) : Ev (fun k => spec_NetAdd.f k n E a b) (0, [], false) := by
  have no : Ev (fun k => spec_NetAdd.j0 k a b true n E) (0, [], false) := by
    refine Ev.succ ?_
    simp only [spec_NetAdd.j0]
    exact Ev.pos trivial (Ev.now _)
  simp only [spec_NetAdd.f]
  refine Ev.bind (ev_l1Knot n E a hE hw) ?_
  by_cases ha : OK n E ∧ In n a
  · refine Ev.pos (dec_t ha) (Ev.bind (ev_l1Knot n E b hE hw) ?_)
    by_cases hb : OK n E ∧ In n b
    · refine Ev.pos (dec_t hb) ?_
      by_cases e : a = b
      · exact Ev.pos e no
      · refine Ev.neg e (Ev.bind (ev_spec_NetHas n E a b hE hw) ?_)
        by_cases hh : Has E a b
        · rw [dec_t ⟨ha.1, hh⟩]; exact no
        · exact absurd ⟨ha.1, ha.2, hb.2, e, hh⟩ h
    · exact Ev.neg (by rw [dec_f hb]; simp) no
  · exact Ev.neg (by rw [dec_f ha]; simp) no
theorem ev_spec_NetAdd_any {n : Int} {E : List T} (h : OK n E) (a b : Int) : ∃ n' E' ok, Ev (fun k => spec_NetAdd.f k n E a b) (n', E', ok) ∧ OK n' E' := by
  have hl := h.length
  by_cases hm : MayAdd n E a b
  · exact ⟨_, _, _, ev_spec_NetAdd hm, h.ins hm.2.1 hm.2.2.1 hm.2.2.2.1 hm.2.2.2.2⟩
  · exact ⟨_, _, _, ev_spec_NetAdd_not (by omega) h.wf hm, OK.nil (by omega) (by omega)⟩
theorem ev_l71Net_l2 {s : List Int} (h : Bytes s) : ∀ (d : Nat) (i p n : Int) (E : List T), i ≤ d → d ≤ 20 → 0 ≤ p → p + 2 * d ≤ 101000 → OK n E → ∃ n' E' p', Ev (fun k => spec_l71Net.l2 k i s p n E) (n', E', p') ∧ OK n' E' ∧ 0 ≤ p' ∧ p' ≤ p + 2 * d
  | d, i, p, n, E, hi, hd, hp, hq, ho => by
    have stop : ∃ n' E' p', Ev (fun k => spec_l71Net.j4 k i false s p n E) (n', E', p') ∧ OK n' E' ∧ 0 ≤ p' ∧ p' ≤ p + 2 * d := by
      refine ⟨n, E, p, Ev.succ ?_, ho, hp, by omega⟩
      simp only [spec_l71Net.j4]
      exact Ev.neg (by simp) (Ev.now _)
    by_cases h1 : i > 0
    · by_cases h2 : n > 1
      · cases d with
        | zero => omega
        | succ d =>
          have h8 := ho.n8
          obtain ⟨a, ha, _⟩ := ev_pick h (p := p) (by omega) n (by omega)
          obtain ⟨b, hb, _⟩ := ev_pick h (p := p + 1) (by omega) n (by omega)
          obtain ⟨n1, E1, ok, hadd, hok⟩ := ev_spec_NetAdd_any ho a b
          by_cases hk : ok = true
          · obtain ⟨n2, E2, p2, hev, ho2, hp2, hq2⟩ := ev_l71Net_l2 h d (i - 1) (p + 1 + 1) n1 E1 (by omega) (by omega) (by omega) (by omega) hok
            refine ⟨n2, E2, p2, Ev.succ ?_, ho2, hp2, by omega⟩
            simp only [spec_l71Net.l2]
            refine Ev.pos h1 (Ev.succ ?_)
            simp only [spec_l71Net.j4]
            refine Ev.pos (decide_eq_true h2) (Ev.bind ha (Ev.bind hb (Ev.bind hadd (Ev.pos hk ?_))))
            rw [w64 (by omega)]
            exact hev
          · obtain ⟨n2, E2, p2, hev, ho2, hp2, hq2⟩ := ev_l71Net_l2 h d (i - 1) (p + 1 + 1) n E (by omega) (by omega) (by omega) (by omega) ho
            refine ⟨n2, E2, p2, Ev.succ ?_, ho2, hp2, by omega⟩
            simp only [spec_l71Net.l2]
            refine Ev.pos h1 (Ev.succ ?_)
            simp only [spec_l71Net.j4]
            refine Ev.pos (decide_eq_true h2) (Ev.bind ha (Ev.bind hb (Ev.bind hadd (Ev.neg hk ?_))))
            rw [w64 (by omega)]
            exact hev
      · obtain ⟨n2, E2, p2, hev, r⟩ := stop
        refine ⟨n2, E2, p2, Ev.succ ?_, r⟩
        simp only [spec_l71Net.l2]
        refine Ev.pos h1 ?_
        rw [decide_eq_false h2]
        exact hev
    · obtain ⟨n2, E2, p2, hev, r⟩ := stop
      refine ⟨n2, E2, p2, Ev.succ ?_, r⟩
      simp only [spec_l71Net.l2]
      exact Ev.neg h1 hev
theorem ev_l71Net_j2 {s : List Int} (h : Bytes s) (p n : Int) (E : List T) (hp : 0 ≤ p) (hq : p ≤ 100900) (ho : OK n E) : ∃ n' E' p', Ev (fun k => spec_l71Net.j2 k s p n E) (n', E', p') ∧ OK n' E' ∧ 0 ≤ p' ∧ p' ≤ p + 30 := by
  obtain ⟨a, ha, ha', _⟩ := ev_pick h (p := p) (by omega) 13 (by omega)
  have := ha' (by omega)
  obtain ⟨n2, E2, p2, hev, ho2, hp2, hq2⟩ := ev_l71Net_l2 h 13 a (p + 1) n E (by omega) (by omega) (by omega) (by omega) ho
  refine ⟨n2, E2, p2, Ev.succ ?_, ho2, hp2, by omega⟩
  simp only [spec_l71Net.j2]
  exact Ev.bind ha hev
theorem ev_l71Net_l0 {s : List Int} (h : Bytes s) : ∀ (d : Nat) (i p n : Int) (E : List T), i + d = 8 → 0 ≤ i → 0 ≤ p → p + d ≤ 100900 → OK n E → ∃ n' E' p', Ev (fun k => spec_l71Net.l0 k i s p n E) (n', E', p') ∧ OK n' E' ∧ 0 ≤ p' ∧ p' ≤ p + d + 30
  | d, i, p, n, E, hi, h0, hp, hq, ho => by
    by_cases h1 : i < n
    · cases d with
      | zero => have := ho.n8; omega
      | succ d =>
        obtain ⟨a, ha, _⟩ := ev_pick h (p := p) (by omega) i (by omega)
        obtain ⟨n1, E1, ok, hadd, hok⟩ := ev_spec_NetAdd_any ho i a
        obtain ⟨n2, E2, p2, hev, ho2, hp2, hq2⟩ := ev_l71Net_l0 h d (i + 1) (p + 1) n1 E1 (by omega) (by omega) (by omega) (by omega) hok
        refine ⟨n2, E2, p2, Ev.succ ?_, ho2, hp2, by omega⟩
        simp only [spec_l71Net.l0]
        refine Ev.pos h1 (Ev.bind ha (Ev.bind hadd ?_))
        rw [w64 (by omega)]
        exact hev
    · obtain ⟨n2, E2, p2, hev, ho2, hp2, hq2⟩ := ev_l71Net_j2 h p n E hp (by omega) ho
      refine ⟨n2, E2, p2, Ev.succ ?_, ho2, hp2, by omega⟩
      simp only [spec_l71Net.l0]
      exact Ev.neg h1 hev
theorem ev_l71Net_l1 {s : List Int} (h : Bytes s) (p : Int) (hp : 0 ≤ p) (hq : p ≤ 100900) : ∀ (d : Nat) (i n : Int) (E : List T), i + d = 8 → 0 ≤ i → OK n E → ∃ n' E' p', Ev (fun k => spec_l71Net.l1 k i s p n E) (n', E', p') ∧ OK n' E' ∧ 0 ≤ p' ∧ p' ≤ p + 30
  | d, i, n, E, hi, h0, ho => by
    obtain ⟨n2, E2, p2, hev, r⟩ := ev_l71Net_j2 h p n E hp (by omega) ho
    by_cases h1 : i < n
    · by_cases h2 : n > 2
      · cases d with
        | zero => have := ho.n8; omega
        | succ d =>
          obtain ⟨n1, E1, ok, hadd, hok⟩ := ev_spec_NetAdd_any ho i (Int.tmod (i + 1) n)
          obtain ⟨n2, E2, p2, hev, r⟩ := ev_l71Net_l1 h p hp hq d (i + 1) n1 E1 (by omega) (by omega) hok
          refine ⟨n2, E2, p2, Ev.succ ?_, r⟩
          simp only [spec_l71Net.l1]
          rw [w64 (x := i + 1) (by omega)]
          exact Ev.pos h1 (Ev.pos h2 (Ev.neg (by omega) (Ev.bind hadd hev)))
      · refine ⟨n2, E2, p2, Ev.succ ?_, r⟩
        simp only [spec_l71Net.l1]
        exact Ev.pos h1 (Ev.neg h2 hev)
    · refine ⟨n2, E2, p2, Ev.succ ?_, r⟩
      simp only [spec_l71Net.l1]
      exact Ev.neg h1 hev
theorem ev_l71Net {s : List Int} (h : Bytes s) (p : Int) (hp : 0 ≤ p) (hq : p ≤ 100800) : ∃ n E p', Ev (fun k => spec_l71Net.f k s p) (n, E, p') ∧ OK n E ∧ 0 ≤ p' ∧ p' ≤ p + 50 := by
  obtain ⟨a, ha, ha', _⟩ := ev_pick h (p := p) (by omega) 8 (by omega)
  have := ha' (by omega)
  obtain ⟨b, hb, hb', _⟩ := ev_pick h (p := p + 1) (by omega) 6 (by omega)
  have hn : OK (1 + a) ([] : List T) := OK.nil (by omega) (by omega)
  simp only [spec_l71Net.f]
  by_cases h0 : b = 0
  · obtain ⟨n2, E2, p2, hev, ho2, hp2, hq2⟩ := ev_l71Net_l0 h 7 1 (p + 1 + 1) (1 + a) [] (by omega) (by omega) (by omega) (by omega) hn
    refine ⟨n2, E2, p2, Ev.bind ha (Ev.bind hb (Ev.pos h0 ?_)), ho2, hp2, by omega⟩
    rw [w64 (by omega)]
    exact hev
  · by_cases h1 : b = 1
    · obtain ⟨n2, E2, p2, hev, ho2, hp2, hq2⟩ := ev_l71Net_l1 h (p + 1 + 1) (by omega) (by omega) 8 0 (1 + a) [] (by omega) (by omega) hn
      refine ⟨n2, E2, p2, Ev.bind ha (Ev.bind hb (Ev.neg h0 (Ev.pos h1 ?_))), ho2, hp2, by omega⟩
      rw [w64 (by omega)]
      exact hev
    · obtain ⟨n2, E2, p2, hev, ho2, hp2, hq2⟩ := ev_l71Net_j2 h (p + 1 + 1) (1 + a) [] (by omega) (by omega) hn
      refine ⟨n2, E2, p2, Ev.bind ha (Ev.bind hb (Ev.neg h0 (Ev.neg h1 ?_))), ho2, hp2, by omega⟩
      rw [w64 (by omega)]
      exact hev
/-- A small net, valid or not. -/
structure Small (n : Int) (E : List T) : Prop where
  n : -1 ≤ n ∧ n ≤ 9
  len : E.length ≤ 70
  tie : ∀ t ∈ E, (-9 ≤ t.f0 ∧ t.f0 ≤ 9) ∧ (-9 ≤ t.f1 ∧ t.f1 ≤ 9)
theorem Small.wf {n : Int} {E : List T} (h : Small n E) : WF E := fun t ht => by have := h.tie t ht; omega
theorem Small.le {n : Int} {E : List T} (h : Small n E) : E.length ≤ 1048576 := by have := h.len; omega
theorem OK.small {n : Int} {E : List T} (h : OK n E) : Small n E := by
  refine ⟨?_, by have := h.length; omega, fun t ht => ?_⟩
  · have := h.n0; have := h.n8; omega
  · have := h.tie t ht; have := h.n8; omega
theorem ev_l71Spoil {s : List Int} (h : Bytes s) (p : Int) (hp : 0 ≤ p) (hq : p ≤ 100800) {n : Int} {E : List T} (ho : OK n E) : ∃ n' E' p', Ev (fun k => spec_l71Spoil.f k s p n E) (n', E', p') ∧ Small n' E' ∧ 0 ≤ p' ∧ p' ≤ p + 3 := by
  have hl := ho.length
  have h8 := ho.n8
  have h0 := ho.n0
  have sm := ho.small
  have add : ∀ t : T, ((-9 ≤ t.f0 ∧ t.f0 ≤ 9) ∧ (-9 ≤ t.f1 ∧ t.f1 ≤ 9)) → Small n (E ++ [t]) := fun t ht => ⟨sm.n, by simp only [List.length_append, List.length_singleton]; omega, fun u hu => by
    rcases List.mem_append.1 hu with m | m
    · exact sm.tie u m
    · rw [List.mem_singleton] at m; subst m; exact ht⟩
  obtain ⟨a, ha, ha', _⟩ := ev_pick h (p := p) (by omega) 6 (by omega)
  have := ha' (by omega)
  simp only [spec_l71Spoil.f]
  by_cases e0 : a = 0
  · obtain ⟨b, hb, hb', _⟩ := ev_pick h (p := p + 1) (by omega) 5 (by omega)
    have := hb' (by omega)
    have hv : -1 ≤ rd [(-1 : Int), 0, 1, 8, 9] b ∧ rd [(-1 : Int), 0, 1, 8, 9] b ≤ 9 := by
      obtain rfl | rfl | rfl | rfl | rfl : b = 0 ∨ b = 1 ∨ b = 2 ∨ b = 3 ∨ b = 4 := by omega
      all_goals decide
    refine ⟨_, _, _, Ev.bind0 (l1Copy n E (by omega)) (Ev.bind ha (Ev.pos e0 (Ev.bind0 rfl (Ev.bind hb (Ev.pos (by omega) (Ev.pos (by simp; omega) (Ev.now _))))))), ⟨hv, sm.len, sm.tie⟩, by omega, by omega⟩
  · by_cases e1 : a = 1
    · obtain ⟨b, hb, hb', _⟩ := ev_pick h (p := p + 1) (by omega) 3 (by omega)
      obtain ⟨c, hc, hc', _⟩ := ev_pick h (p := p + 1 + 1) (by omega) 3 (by omega)
      have := hb' (by omega)
      have := hc' (by omega)
      exact ⟨_, _, _, Ev.bind0 (l1Copy n E (by omega)) (Ev.bind ha (Ev.neg e0 (Ev.pos e1 (Ev.bind hb (Ev.bind hc (Ev.pos (by dsimp only; omega) (Ev.now _))))))), add ⟨b, c⟩ (by dsimp only; omega), by omega, by omega⟩
    · by_cases e2 : a = 2
      · refine ⟨_, _, _, Ev.bind0 (l1Copy n E (by omega)) (Ev.bind ha (Ev.neg e0 (Ev.neg e1 (Ev.pos e2 (Ev.pos (by dsimp only; omega) (Ev.now _)))))), add ⟨wrap64 (n - 1), n⟩ ?_, by omega, by omega⟩
        rw [w64 (by omega)]
        dsimp only; omega
      · by_cases e3 : a = 3
        · by_cases hE : (E.length : Int) > 0
          · obtain ⟨b, hb, hb', _⟩ := ev_pick h (p := p + 1) (by omega) (E.length : Int) (by omega)
            have hbb := hb' (by omega)
            refine ⟨_, _, _, Ev.bind0 (l1Copy n E (by omega)) (Ev.bind ha (Ev.neg e0 (Ev.neg e1 (Ev.neg e2 (Ev.pos e3 (Ev.pos hE (Ev.bind hb (Ev.pos hbb.1 (Ev.pos hbb.2 (Ev.now _)))))))))), ⟨sm.n, by rw [List.length_set]; exact sm.len, fun u hu => ?_⟩, by omega, by omega⟩
            rcases List.mem_or_eq_of_mem_set hu with m | rfl
            · exact sm.tie u m
            · have hbn : b.toNat < E.length := by omega
              have e : (rd_T52 E b) = E[b.toNat] := by
                have := rd_T_nat E b.toNat hbn
                rw [show ((b.toNat : Nat) : Int) = b by omega] at this
                exact this
              have := sm.tie _ (List.getElem_mem hbn)
              dsimp only
              rw [e]
              omega
          · exact ⟨_, _, _, Ev.bind0 (l1Copy n E (by omega)) (Ev.bind ha (Ev.neg e0 (Ev.neg e1 (Ev.neg e2 (Ev.pos e3 (Ev.neg hE (Ev.now _))))))), sm, by omega, by omega⟩
        · by_cases e4 : a = 4
          · by_cases hE : (E.length : Int) > 1
            · refine ⟨_, _, _, Ev.bind0 (l1Copy n E (by omega)) (Ev.bind ha (Ev.neg e0 (Ev.neg e1 (Ev.neg e2 (Ev.neg e3 (Ev.pos e4 (Ev.pos hE (Ev.pos (by dsimp only; omega) (Ev.pos (by dsimp only; omega) (Ev.now _)))))))))), add _ ?_, by omega, by omega⟩
              have e : rd_T52 E 0 = E[0] := rd_T_nat E 0 (by omega)
              rw [e]
              have := sm.tie _ (List.getElem_mem (show 0 < E.length by omega))
              dsimp only; omega
            · exact ⟨_, _, _, Ev.bind0 (l1Copy n E (by omega)) (Ev.bind ha (Ev.neg e0 (Ev.neg e1 (Ev.neg e2 (Ev.neg e3 (Ev.pos e4 (Ev.neg hE (Ev.now _)))))))), sm, by omega, by omega⟩
          · refine ⟨_, _, _, Ev.bind0 (l1Copy n E (by omega)) (Ev.bind ha (Ev.neg e0 (Ev.neg e1 (Ev.neg e2 (Ev.neg e3 (Ev.neg e4 (Ev.bind0 rfl (Ev.pos (by simp only [List.length_singleton]; omega) (Ev.now _))))))))), ⟨sm.n, by simp only [List.singleton_append, List.length_cons]; omega, fun u hu => ?_⟩, by omega, by omega⟩
            rcases List.mem_append.1 hu with m | m
            · rw [List.mem_singleton] at m; subst m; dsimp only; omega
            · exact sm.tie u m
theorem ev_l71Any {s : List Int} (h : Bytes s) (p : Int) (hp : 0 ≤ p) (hq : p ≤ 100700) : ∃ n E p', Ev (fun k => spec_l71Any.f k s p) (n, E, p') ∧ Small n E ∧ 0 ≤ p' ∧ p' ≤ p + 60 := by
  obtain ⟨n, E, p1, hev, ho, hp1, hq1⟩ := ev_l71Net h p hp (by omega)
  obtain ⟨a, ha, _⟩ := ev_pick h (p := p1) (by omega) 12 (by omega)
  simp only [spec_l71Any.f]
  by_cases e : a = 0
  · obtain ⟨n2, E2, p2, h2, hs, hp2, hq2⟩ := ev_l71Spoil h (p1 + 1) (by omega) (by omega) ho
    exact ⟨_, _, _, Ev.bind hev (Ev.bind ha (Ev.pos e (Ev.bind h2 (Ev.now _)))), hs, hp2, by dsimp only; omega⟩
  · exact ⟨_, _, _, Ev.bind hev (Ev.bind ha (Ev.neg e (Ev.now _))), ho.small, by omega, by omega⟩
theorem ev_DrawBlockSame_j0 {s : List Int} (hs : Bytes s) {n : Int} {E : List T} (hn : Small n E) (b : Bool) (hb : b = true → 0 < E.length) (p : Int) (hp : 0 ≤ p) (hq : p ≤ 90000) (t0 t1 u0 u1 : Int) : ∃ a0 a1 b0 b1, Ev (fun k => spec_DrawBlockSame.j0 k b s p n E t0 t1 u0 u1) (n, E, a0, a1, b0, b1) := by
  have hlE := hn.len
  cases b with
  | false =>
    refine ⟨t0, t1, u0, u1, Ev.succ ?_⟩
    simp only [spec_DrawBlockSame.j0]
    exact Ev.neg (by simp) (Ev.now _)
  | true =>
    have h0 := hb rfl
    obtain ⟨v, hv, v0, v1⟩ := ev_pick hs (p := p) ⟨hp, by omega⟩ E.length (by omega)
    obtain ⟨w, hw, w0, w1⟩ := ev_pick hs (p := p + 1) ⟨by omega, by omega⟩ E.length (by omega)
    have v2 := v0 (by omega)
    have w2 := w0 (by omega)
    refine ⟨(rd_T52 E v).f0, (rd_T52 E v).f1, (rd_T52 E w).f0, (rd_T52 E w).f1, Ev.succ ?_⟩
    simp only [spec_DrawBlockSame.j0]
    exact Ev.pos trivial (Ev.bind hv (Ev.pos v2.1 (Ev.pos v2.2 (Ev.bind hw (Ev.pos w2.1 (Ev.pos w2.2 (Ev.now _)))))))
theorem ev_DrawBlockSame (l : List Int) (hl : l.length ≤ maxLen ∧ ∀ x ∈ l, (Lit.int .u8 x).wf = true) : ∃ n E a0 a1 b0 b1, Ev (fun k => spec_DrawBlockSame.f k l) (n, E, a0, a1, b0, b1) ∧ Small n E := by
  obtain ⟨s, ho, hs⟩ := l6Open l hl
  obtain ⟨n, E, p, h, hn, hp0, hp1⟩ := ev_l71Any hs 0 (by omega) (by omega)
  obtain ⟨x, hx, _, _⟩ := ev_pick hs (p := p) ⟨hp0, by omega⟩ 3 (by omega)
  obtain ⟨y, hy, _, _⟩ := ev_pick hs (p := p + 1) ⟨by omega, by omega⟩ 7 (by omega)
  obtain ⟨z, hz, _, _⟩ := ev_pick hs (p := p + 1 + 1) ⟨by omega, by omega⟩ 8 (by omega)
  by_cases k : (E.length : Int) > 0
  · obtain ⟨a0, a1, b0, b1, hj⟩ := ev_DrawBlockSame_j0 hs hn (decide (z > 0)) (fun _ => by omega) (p + 1 + 1 + 1) (by omega) (by omega) x (wrap64 (1 + y)) x (wrap64 (1 + y))
    refine ⟨n, E, a0, a1, b0, b1, ?_, hn⟩
    simp only [spec_DrawBlockSame.f]
    exact Ev.bind0 ho (Ev.bind h (Ev.bind hx (Ev.bind hy (Ev.pos k (Ev.bind hz hj)))))
  · obtain ⟨a0, a1, b0, b1, hj⟩ := ev_DrawBlockSame_j0 hs hn false (fun e => by cases e) (p + 1 + 1) (by omega) (by omega) x (wrap64 (1 + y)) x (wrap64 (1 + y))
    refine ⟨n, E, a0, a1, b0, b1, ?_, hn⟩
    simp only [spec_DrawBlockSame.f]
    exact Ev.bind0 ho (Ev.bind h (Ev.bind hx (Ev.bind hy (Ev.neg k hj))))
theorem ev_impl_BlockSame (n : Int) (E : List T) (s t : T) (hE : E.length ≤ 1048576) : Ev (fun k => impl_BlockSame.f k n E s.f0 s.f1 t.f0 t.f1) (dec (OK n E ∧ s ∈ E ∧ t ∈ E ∧ Bl E s t)) := by
  simp only [impl_BlockSame.f]
  refine Ev.bind (ev_impl_NetOk n E hE) ?_
  by_cases h : OK n E
  · refine Ev.pos (dec_t h) (Ev.bind (ev_contains E s hE) ?_)
    by_cases hs : s ∈ E
    · refine Ev.pos (dec_t hs) (Ev.bind (ev_block h hs) ?_)
      have hl := blockL_length E s
      refine Ev.bind (ev_contains (blockL E s) t (by omega)) (Ev.some_ (dec_congr ?_))
      rw [mem_blockL]
      exact ⟨fun k => ⟨h, hs, k.1, k.2⟩, fun k => ⟨k.2.2.1, k.2.2.2⟩⟩
    · exact Ev.neg (by rw [dec_f hs]; simp) (Ev.some_ (dec_f (fun k => hs k.2.1)).symm)
  · exact Ev.neg (by rw [dec_f h]; simp) (Ev.some_ (dec_f (fun k => h k.1)).symm)
end Go.Proofs.Ytffflhmblelegaa.Th
namespace Go.Proofs.Ytffflhmblelegaa.Pure
open Go.RowKit Go.Proofs.YtffflhmblelegaaW.PrintWords Go.Proofs.YtffflhmblelegaaW.PrintLast Go.Proofs.YtffflhmblelegaaW.PrintMore Go.Proofs.Ytffflhmblelegaa.F Go.Proofs.Ytffflhmblelegaa.Th Classical
theorem FnBlockSame : laws_FnBlockSame.Pure := by
  intro l hl
  refine Ev.rounds (g := fun k => laws_FnBlockSame.f k l) ?_
  simp only [laws_FnBlockSame.f]
  by_cases h1 : (l.length : Int) > 1048576
  · exact Ev.pos h1 (Ev.now _)
  · obtain ⟨n, E, a0, a1, b0, b1, hd, hn⟩ := ev_DrawBlockSame l hl
    have i1 := ev_impl_BlockSame n E ⟨a0, a1⟩ ⟨b0, b1⟩ hn.le
    have i2 := ev_impl_BlockSame n E ⟨b0, b1⟩ ⟨a0, a1⟩ hn.le
    have s1 := ev_spec_BlockSame n E ⟨a0, a1⟩ ⟨b0, b1⟩ hn.le hn.wf
    have hs := ev_loHas E ⟨a0, a1⟩ hn.le
    have ht := ev_loHas E ⟨b0, b1⟩ hn.le
    have odd : Ev (fun k => laws_FnBlockSame.j0 k (dec (OK n E ∧ (⟨a0, a1⟩ : T) ∈ E ∧ (⟨b0, b1⟩ : T) ∈ E ∧ Bl E ⟨a0, a1⟩ ⟨b0, b1⟩)) true n E a0 a1 b0 b1) true := by
      refine Ev.succ ?_
      simp only [laws_FnBlockSame.j0]
      refine Ev.pos trivial (Ev.bind s1 (Ev.pos (by simp) ?_))
      by_cases p : OK n E ∧ (⟨a0, a1⟩ : T) ∈ E ∧ (⟨b0, b1⟩ : T) ∈ E ∧ Bl E ⟨a0, a1⟩ ⟨b0, b1⟩
      · exact Ev.pos (dec_t p) (Ev.bind hs (Ev.pos (dec_t p.2.1) (Ev.bind ht (Ev.some_ (dec_t p.2.2.1)))))
      · exact Ev.neg (by rw [dec_f p]; simp) (Ev.now _)
    refine Ev.neg h1 (Ev.bind hd (Ev.bind i1 (Ev.bind s1 (Ev.neg (by simp) (Ev.bind (ev_spec_NetOk n E hn.le hn.wf) ?_)))))
    by_cases h : OK n E
    · refine Ev.pos (dec_t h) (Ev.bind hs ?_)
      by_cases k1 : (⟨a0, a1⟩ : T) ∈ E
      · refine Ev.pos (dec_t k1) (Ev.bind ht ?_)
        by_cases k2 : (⟨b0, b1⟩ : T) ∈ E
        · rw [dec_t k2]
          have hsym : dec (OK n E ∧ (⟨b0, b1⟩ : T) ∈ E ∧ (⟨a0, a1⟩ : T) ∈ E ∧ Bl E ⟨b0, b1⟩ ⟨a0, a1⟩) = dec (OK n E ∧ (⟨a0, a1⟩ : T) ∈ E ∧ (⟨b0, b1⟩ : T) ∈ E ∧ Bl E ⟨a0, a1⟩ ⟨b0, b1⟩) := dec_congr ⟨fun p => ⟨h, k1, k2, p.2.2.2.symm⟩, fun p => ⟨h, k2, k1, p.2.2.2.symm⟩⟩
          refine Ev.succ ?_
          simp only [laws_FnBlockSame.j0]
          refine Ev.neg (by simp) ?_
          have hb : (a0 == b0 && (a1 == b1)) = dec ((⟨a0, a1⟩ : T) = ⟨b0, b1⟩) := beqT ⟨a0, a1⟩ ⟨b0, b1⟩
          rw [hb]
          by_cases e : (⟨a0, a1⟩ : T) = ⟨b0, b1⟩
          · refine Ev.pos (dec_t e) (Ev.pos ?_ (Ev.bind i2 (Ev.some_ (by rw [hsym]; simp))))
            rw [dec_t ⟨h, k1, k2, by rw [← e]; exact Bl.refl h k1⟩]; rfl
          · refine Ev.neg (by rw [dec_f e]; simp) (Ev.bind (ev_loRing (s := ⟨a0, a1⟩) (t := ⟨b0, b1⟩) h k1 hn.le) (Ev.pos ?_ (Ev.bind i2 (Ev.some_ (by rw [hsym]; simp)))))
            have key := ring_iff h k1 k2
            rw [beq_iff_eq]
            refine dec_congr ⟨fun p => ?_, fun p => ⟨h, k1, k2, key.1 (Or.inr p)⟩⟩
            exact (key.2 p.2.2.2).elim (fun q => absurd q e) id
        · rw [dec_f k2]; exact odd
      · exact Ev.neg (by rw [dec_f k1]; simp) odd
    · exact Ev.neg (by rw [dec_f h]; simp) odd
end Go.Proofs.Ytffflhmblelegaa.Pure
