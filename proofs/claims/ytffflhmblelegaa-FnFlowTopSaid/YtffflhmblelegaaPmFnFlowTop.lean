/-
P60: as many ways there are that have no tie twice as ties must be cut.
-/
import Derived.Test.YtffflhmblelegaaWs
import Derived.Test.YtffflhmblelegaaF0
import Derived.Test.YtffflhmblelegaaF3
import Derived.Test.YtffflhmblelegaaF4
import Derived.Test.YtffflhmblelegaaF14
import Derived.Test.YtffflhmblelegaaF6
import Derived.Test.YtffflhmblelegaaF17
import Derived.Test.YtffflhmblelegaaF18
import Derived.Test.YtffflhmblelegaaF9
import Derived.Test.YtffflhmblelegaaF20
import Derived.Test.YtffflhmblelegaaF12
import Derived.Test.YtffflhmblelegaaF11
import Derived.Test.YtffflhmblelegaaF13
import Derived.Test.YtffflhmblelegaaF10
import Derived.Test.YtffflhmblelegaaF8
import Derived.Test.YtffflhmblelegaaXWays
import Derived.Test.YtffflhmblelegaaXSortR
import Derived.Test.YtffflhmblelegaaXWayAll
import Derived.Test.YtffflhmblelegaaF25
import Derived.Test.YtffflhmblelegaaF15
import Derived.Test.YtffflhmblelegaaF16
import Derived.Test.YtffflhmblelegaaXFlowI
import Derived.Test.YtffflhmblelegaaXFlowS
import Derived.Test.YtffflhmblelegaaF23
import Derived.Test.YtffflhmblelegaaF24
import Derived.Test.YtffflhmblelegaaF26
import Derived.Test.YtffflhmblelegaaF27
import Derived.Test.YtffflhmblelegaaF28
import Derived.Test.YtffflhmblelegaaF29
import Derived.WalkKit
import Derived.ProofKit
import Derived.Deep.Slices
import Derived.ChangeSame
namespace Go.Proofs.Ytffflhmblelegaa.Op
open Go.ChangeShapes Go.WideShapes Go.Deep Go.Proofs.YtffflhmblelegaaW.PrintWords
def Opens {α : Type} (P : Program) (t : TypeId) (d : Kd α) (I : α → Prop) : Prop :=
  ∀ {H : Type} (enc : TypeId × Value → H) (W : World) (base : Nat) (held : Bool) (fuel : Nat) (cs : List Value) (x : DataW H × List MemPlace),
    DataW.trod enc P W base (fun _ => true) held fuel t cs = some x → ∃ a, I a ∧ d.K W a cs
theorem opens_int {P : Program} {t : TypeId} {k : IntKind} (ht : P.underlying t = some (.int k)) : Opens P t (Kd.int k) (fun x => (Lit.int k x).wf = true) := by
  intro H enc W base held fuel cs x h
  obtain ⟨n, rfl, _, hw⟩ := DataW.trod_int ht h
  exact ⟨n, hw, rfl⟩
theorem opens_slice {α : Type} [Inhabited α] {P : Program} {t e : TypeId} {d : Kd α} {I : α → Prop} (ht : P.underlying t = some (.slice e)) (hC : P.cellsOf e = d.sz) (h : Opens P e d I) :
    Opens P t (Kd.slice e d) (fun l => l.length ≤ maxLen ∧ ∀ x ∈ l, I x) := by
  intro H enc W base held fuel cs x hx
  rcases open_slice ht hx with ⟨rfl, _⟩ | ⟨a, len, cap, m, n, D, Pl, rfl, hb, hl, hm, hmm, _, hi⟩
  · exact ⟨[], ⟨Nat.zero_le _, fun _ h => by cases h⟩, none, 0, rfl, Nat.le_refl _, rfl, Nat.zero_le _, fun h => absurd h (Nat.lt_irrefl 0)⟩
  · simp only [if_true] at hmm
    rw [hmm] at hi
    clear hmm
    have each : ∀ i, i < len → ∃ y : α, I y ∧ ∃ cs', cs'.length = d.sz ∧ d.K W y cs' ∧ ∀ j u, cs'[j]? = some u → W.cell? (a.add (i * d.sz + j)) = some u := by
      intro i hi'
      obtain ⟨cs', hc, hd⟩ := hi i (by omega)
      obtain ⟨y, iy, ky⟩ := h enc W base held n _ _ hd
      rw [hC] at hc
      obtain ⟨_, hcl, hat⟩ := World.cells?_some hc
      refine ⟨y, iy, cs', hcl, ky, fun j u hu => ?_⟩
      have hj := (List.getElem?_eq_some_iff.1 hu).1
      rw [← Go.Deep.add_add, hat j (by omega), hu]
    obtain ⟨f, hf⟩ := choose_lt each
    refine ⟨(List.range len).map f, ⟨by simpa using Nat.le_trans hl hm, ?_⟩, some a, cap, ?_, ?_, rfl, ?_, ?_⟩
    · intro x hx
      obtain ⟨i, hi', rfl⟩ := List.mem_map.1 hx
      exact (hf i (List.mem_range.1 hi')).1
    · simp
    · simpa using hl
    · have := Nat.le_trans hl hm
      unfold maxLen at this
      simpa using this
    · intro _
      refine ⟨a, rfl, fun j p hj => ?_⟩
      obtain ⟨hj', rfl⟩ := List.getElem?_eq_some_iff.1 hj
      simp only [List.getElem_map, List.getElem_range]
      obtain ⟨_, cs', h1, h2, h3⟩ := hf j (by simpa using hj')
      exact ⟨cs', h1, h2, h3⟩
theorem Opens.asSlice {H : Type} {enc : TypeId × Value → H} {α : Type} {P : Program} {t e : TypeId} {d : Kd α} {I : List α → Prop} (h : Opens P t (Kd.slice e d) I) {W : World} {base : Nat} {held : Bool} {A : Option Addr} {n c : Nat} {x : DataW H} {ps : List MemPlace}
    (hx : DataW.Trod enc P W base (fun _ => true) held t (.slice A n c) x ps) : ∃ l, n = l.length ∧ I l ∧ l.length ≤ c ∧ d.C W A l.length l := by
  obtain ⟨fuel, hf⟩ := hx
  obtain ⟨l, il, A', c', hcs, hl, hC⟩ := h enc W base held fuel _ _ hf
  simp only [Value.cells, List.cons.injEq, and_true, Value.slice.injEq] at hcs
  obtain ⟨rfl, rfl, rfl⟩ := hcs
  exact ⟨l, rfl, il, hl, hC⟩
end Go.Proofs.Ytffflhmblelegaa.Op
namespace Go.Proofs.Ytffflhmblelegaa.Th
open Go.RowKit Go.Proofs.YtffflhmblelegaaW.PrintWords Go.Proofs.YtffflhmblelegaaW.PrintLast Go.Proofs.YtffflhmblelegaaW.PrintMore Go.Proofs.Ytffflhmblelegaa.F
theorem w64 {x : Int} (h : -9223372036854775808 ≤ x ∧ x ≤ 9223372036854775807) : wrap64 x = x := by unfold wrap64; omega
theorem wf_u8 {x : Int} (h : (Lit.int .u8 x).wf = true) : 0 ≤ x ∧ x ≤ 255 := by
  simp only [Lit.wf, Bool.and_eq_true, decide_eq_true_eq] at h
  exact h
theorem Ev.succ {α : Type} {g : Nat → Option α} {r : α} (h : Ev (fun k => g (k + 1)) r) : Ev g r := Ev.step (fun _ => rfl) h
theorem Ev.some_ {α : Type} {r s : α} (h : s = r) : Ev (fun _ => some s) r := by subst h; exact Ev.now _
theorem Ev.pos {α : Type} {c : Prop} [Decidable c] {a b : Nat → Option α} {r : α} (hc : c) (h : Ev a r) : Ev (fun k => if c then a k else b k) r := Ev.congr (fun _ => if_pos hc) h
theorem Ev.neg {α : Type} {c : Prop} [Decidable c] {a b : Nat → Option α} {r : α} (hc : ¬ c) (h : Ev b r) : Ev (fun k => if c then a k else b k) r := Ev.congr (fun _ => if_neg hc) h
theorem Ev.bind0 {α β : Type} {o : Option α} {a : α} {f : Nat → α → Option β} {r : β} (h : o = some a) (k : Ev (fun n => f n a) r) : Ev (fun n => o.bind (f n)) r := by subst h; exact k
theorem Ev.cast {α : Type} {g : Nat → Option α} {r s : α} (h : Ev g r) (e : r = s) : Ev g s := e ▸ h
noncomputable def dec (p : Prop) : Bool := @decide p (Classical.propDecidable p)
theorem dec_iff {p : Prop} : dec p = true ↔ p := by unfold dec; exact @decide_eq_true_iff p (Classical.propDecidable p)
theorem dec_t {p : Prop} (h : p) : dec p = true := dec_iff.2 h
theorem dec_f {p : Prop} (h : ¬ p) : dec p = false := by
  cases e : dec p with
  | false => rfl
  | true => exact absurd (dec_iff.1 e) h
theorem dec_of {b : Bool} {p : Prop} (h : b = true ↔ p) : b = dec p := by rw [Bool.eq_iff_iff, h, dec_iff]
theorem z0 {p q : Prop} (h : p ↔ q) : dec p = dec q := by rw [Bool.eq_iff_iff, dec_iff, dec_iff, h]
theorem Ev.tt {g : Nat → Option Bool} {p : Prop} (hp : p) (h : Ev g true) : Ev g (dec p) := by rw [dec_t hp]; exact h
theorem Ev.ff {g : Nat → Option Bool} {p : Prop} (hp : ¬ p) (h : Ev g false) : Ev g (dec p) := by rw [dec_f hp]; exact h
theorem Ev.dec {g : Nat → Option Bool} {p : Prop} {b : Bool} (h : Ev g b) (hb : b = true ↔ p) : Ev g (dec p) := Ev.cast h (dec_of hb)
theorem rd_nat (l : List Int) (i : Nat) : rd l (i : Int) = l.getD i 0 := by simp [rd]
abbrev T := S52
theorem T.ext {s t : T} (h0 : s.f0 = t.f0) (h1 : s.f1 = t.f1) : s = t := by cases s; cases t; simp_all
instance : DecidableEq T := fun a b => decidable_of_iff (a.f0 = b.f0 ∧ a.f1 = b.f1) ⟨fun h => T.ext h.1 h.2, fun h => by subst h; exact ⟨rfl, rfl⟩⟩
instance : Inhabited T := ⟨⟨0, 0⟩⟩
def lt (s t : T) : Prop := s.f0 < t.f0 ∨ s.f0 = t.f0 ∧ s.f1 < t.f1
instance (s t : T) : Decidable (lt s t) := inferInstanceAs (Decidable (_ ∨ _))
theorem lt_irrefl (s : T) : ¬ lt s s := by unfold lt; omega
theorem lt_trans {s t u : T} (h : lt s t) (k : lt t u) : lt s u := by unfold lt at *; omega
theorem lt_tri (s t : T) : lt s t ∨ s = t ∨ lt t s := by
  by_cases h : s.f0 = t.f0 <;> by_cases k : s.f1 = t.f1
  · exact Or.inr (Or.inl (T.ext h k))
  · unfold lt; omega
  · unfold lt; omega
  · unfold lt; omega
def Asc (E : List T) : Prop := E.Pairwise lt
def AscN : List T → Bool
  | [] => true
  | [_] => true
  | s :: t :: r => decide (lt s t) && AscN (t :: r)
theorem ascN_iff : ∀ E : List T, AscN E = true ↔ Asc E
  | [] => by simp [AscN, Asc]
  | [_] => by simp [AscN, Asc]
  | s :: t :: r => by
    have ih := ascN_iff (t :: r)
    simp only [AscN, Bool.and_eq_true, decide_eq_true_eq, ih, Asc, List.pairwise_cons]
    constructor
    · rintro ⟨h, k, m⟩
      refine ⟨fun u hu => ?_, k, m⟩
      rcases List.mem_cons.1 hu with rfl | hu
      · exact h
      · exact lt_trans h (k u hu)
    · rintro ⟨h, k⟩
      exact ⟨h t (by simp), k⟩
structure OK (n : Int) (E : List T) : Prop where
  n0 : 0 ≤ n
  n8 : n ≤ 8
  tie : ∀ t ∈ E, 0 ≤ t.f0 ∧ t.f0 < t.f1 ∧ t.f1 < n
  asc : Asc E
theorem rd_T_nat (E : List T) (i : Nat) (h : i < E.length) : rd_T52 E i = E[i] := by
  simp [rd_T52, List.getD_eq_getElem?_getD, List.getElem?_eq_getElem h]
theorem z1 (E : List T) (h : Asc E) : ∀ m : Nat, (∀ t ∈ E, 0 ≤ t.f0 * 8 + t.f1 ∧ t.f1 < 8 ∧ 0 ≤ t.f1 ∧ t.f0 * 8 + t.f1 < m) → E.length ≤ m := by
  -- the numbers 8 a + b ascend
  have key : ∀ (E : List T), Asc E → ∀ lo m : Int, lo ≤ m → (∀ t ∈ E, lo ≤ t.f0 * 8 + t.f1 ∧ t.f1 < 8 ∧ 0 ≤ t.f1 ∧ t.f0 * 8 + t.f1 < m) → (E.length : Int) ≤ m - lo := by
    intro E
    induction E with
    | nil => intro _ lo m h _; simp; omega
    | cons s r ih =>
      intro ha lo m hlm hb
      have hs := hb s (by simp)
      have := ih (List.Pairwise.of_cons ha) (s.f0 * 8 + s.f1 + 1) m (by omega) (fun t ht => by
        have h1 := (List.pairwise_cons.1 ha).1 t ht
        have h2 := hb t (by simp [ht])
        unfold lt at h1
        omega)
      simp only [List.length_cons]
      omega
  intro m hb
  have := key E h 0 m (by omega) (fun t ht => by have := hb t ht; omega)
  omega
theorem OK.length {n : Int} {E : List T} (h : OK n E) : E.length ≤ 64 := by
  refine z1 E h.asc 64 (fun t ht => ?_)
  have := h.tie t ht
  have := h.n8
  omega
theorem l6In (a b c : Int) : spec_l6In.f a b c = some (decide (b ≤ a ∧ a ≤ c)) := by
  unfold spec_l6In.f
  by_cases h : a ≥ b
  · rw [if_pos h]; congr 1; exact decide_eq_decide.2 (by omega)
  · rw [if_neg h]; congr 1; symm; exact decide_eq_false (by omega)
theorem l1Less (s t : T) : spec_l1Less.f s.f0 s.f1 t.f0 t.f1 = some (decide (lt s t)) := by
  unfold spec_l1Less.f lt
  by_cases h : s.f0 < t.f0
  · rw [if_pos h]; congr 1; symm; exact decide_eq_true (by omega)
  · rw [if_neg h]
    by_cases k : s.f0 = t.f0
    · rw [if_pos k]; congr 1; exact decide_eq_decide.2 (by omega)
    · rw [if_neg k]; congr 1; symm; exact decide_eq_false (by omega)
def okAt (n : Int) (E : List T) (i : Nat) : Bool :=
  match E[i]? with
  | none => true
  | some t => decide (0 ≤ t.f0 ∧ t.f0 ≤ n - 1) && decide (t.f0 + 1 ≤ t.f1 ∧ t.f1 ≤ n - 1) && (match i with | 0 => true | j + 1 => match E[j]? with | none => true | some s => decide (lt s t))
theorem z2 (n : Int) (E : List T) (hn : 0 ≤ n ∧ n ≤ 8) (hE : E.length ≤ 64) (hw : ∀ t ∈ E, (-9223372036854775808 ≤ t.f0 ∧ t.f0 ≤ 9223372036854775807)) :
    ∀ (d i : Nat), i + d = E.length → Ev (fun k => spec_NetOk.l0 k i n E) ((List.range' i d).all (okAt n E))
  | 0, i, h => by
    refine Ev.succ ?_
    simp only [spec_NetOk.l0]
    refine Ev.neg (by omega) ?_
    exact Ev.some_ (by simp)
  | d + 1, i, h => by
    have hi : i < E.length := by omega
    have hE' : E[i]? = some E[i] := List.getElem?_eq_getElem hi
    refine Ev.succ ?_
    simp only [spec_NetOk.l0, rd_T_nat E i hi]
    refine Ev.pos (by omega) (Ev.pos (by omega) ?_)
    rw [w64 (x := n - 1) (by omega)]
    refine Ev.bind0 (l6In _ _ _) ?_
    simp only [List.range'_succ, List.all_cons]
    by_cases h1 : 0 ≤ E[i].f0 ∧ E[i].f0 ≤ n - 1
    · refine Ev.pos (decide_eq_true h1) ?_
      have h2 := hw E[i] (List.getElem_mem hi)
      rw [w64 (x := E[i].f0 + 1) (by omega)]
      refine Ev.bind0 (l6In _ _ _) ?_
      by_cases h3 : E[i].f0 + 1 ≤ E[i].f1 ∧ E[i].f1 ≤ n - 1
      · refine Ev.pos (decide_eq_true h3) ?_
        have hrec := z2 n E hn hE hw d (i + 1) (by omega)
        cases i with
        | zero =>
          refine Ev.neg (by omega) ?_
          rw [w64 (by omega)]
          refine Ev.cast hrec ?_
          simp [okAt, hE', h1, h3]
        | succ j =>
          refine Ev.pos (by omega) ?_
          have hj : wrap64 (((j + 1 : Nat) : Int) - 1) = (j : Int) := by rw [w64 (by omega)]; omega
          rw [hj]
          refine Ev.pos (by omega) (Ev.pos (by omega) ?_)
          rw [rd_T_nat E j (by omega)]
          refine Ev.bind0 (l1Less _ _) ?_
          have hEj : E[j]? = some (E[j]'(by omega)) := List.getElem?_eq_getElem (by omega)
          by_cases h4 : lt (E[j]'(by omega)) E[j + 1]
          · refine Ev.pos (decide_eq_true h4) ?_
            rw [w64 (by omega)]
            refine Ev.cast hrec ?_
            simp [okAt, hE', hEj, h1, h3, h4]
          · refine Ev.neg (by simp [h4]) ?_
            exact Ev.some_ (by simp [okAt, hE', hEj, h4])
      · refine Ev.neg (by simp [h3]) ?_
        refine Ev.some_ ?_
        simp only [okAt, hE', decide_eq_false h3, Bool.and_false, Bool.false_and]
    · refine Ev.neg (by simp only [decide_eq_true_eq]; exact h1) ?_
      refine Ev.some_ ?_
      simp only [okAt, hE', decide_eq_false h1, Bool.false_and]
theorem okAt_iff (n : Int) (E : List T) (hn : 0 ≤ n ∧ n ≤ 8) : (List.range' 0 E.length).all (okAt n E) = true ↔ OK n E := by
  rw [List.all_eq_true]
  have hr : ∀ i, i ∈ List.range' 0 E.length ↔ i < E.length := fun i => by simp [List.mem_range']
  constructor
  · intro h
    refine ⟨hn.1, hn.2, fun t ht => ?_, ?_⟩
    · obtain ⟨i, hi, rfl⟩ := List.mem_iff_getElem.1 ht
      have := h i ((hr i).2 hi)
      simp only [okAt, List.getElem?_eq_getElem hi, Bool.and_eq_true, decide_eq_true_eq] at this
      omega
    · refine List.pairwise_iff_getElem.2 ?_
      -- neighbours ascend, so all do
      have nb : ∀ j, (hj : j + 1 < E.length) → lt (E[j]'(by omega)) E[j + 1] := fun j hj => by
        have := h (j + 1) ((hr _).2 hj)
        simp only [okAt, List.getElem?_eq_getElem hj, List.getElem?_eq_getElem (show j < E.length by omega), Bool.and_eq_true, decide_eq_true_eq] at this
        exact this.2
      intro i j hi hj hij
      induction j with
      | zero => omega
      | succ j ih =>
        by_cases e : i = j
        · subst e; exact nb i hj
        · exact lt_trans (ih (by omega) (by omega)) (nb j hj)
  · intro h i hi
    rw [hr] at hi
    have h1 := h.tie E[i] (List.getElem_mem hi)
    simp only [okAt, List.getElem?_eq_getElem hi, Bool.and_eq_true, decide_eq_true_eq]
    refine ⟨⟨by omega, by omega⟩, ?_⟩
    cases i with
    | zero => rfl
    | succ j =>
      simp only [List.getElem?_eq_getElem (show j < E.length by omega), decide_eq_true_eq]
      exact List.pairwise_iff_getElem.1 h.asc j (j + 1) (by omega) hi (by omega)
def WF (E : List T) : Prop := ∀ t ∈ E, (-9223372036854775808 ≤ t.f0 ∧ t.f0 ≤ 9223372036854775807) ∧ (-9223372036854775808 ≤ t.f1 ∧ t.f1 ≤ 9223372036854775807)
theorem OK.wf {n : Int} {E : List T} (h : OK n E) : WF E := fun t ht => by have := h.tie t ht; have := h.n8; omega
theorem z3 (n : Int) (E : List T) (hE : E.length ≤ 1048576) (hw : WF E) : Ev (fun k => spec_NetOk.f k n E) (dec (OK n E)) := by
  simp only [spec_NetOk.f]
  refine Ev.bind0 (l6In _ _ _) ?_
  by_cases hn : 0 ≤ n ∧ n ≤ 8
  · refine Ev.pos (decide_eq_true hn) ?_
    refine Ev.succ ?_
    simp only [spec_NetOk.j0]
    by_cases hl : (E.length : Int) > 64
    · refine Ev.pos (decide_eq_true hl) ?_
      exact Ev.ff (fun h => by have := h.length; omega) (Ev.now _)
    · refine Ev.neg (by simp only [decide_eq_true_eq]; exact hl) ?_
      exact Ev.dec (z2 n E hn (by omega) (fun t ht => (hw t ht).1) E.length 0 (by omega)) (okAt_iff n E hn)
  · refine Ev.neg (by simp only [decide_eq_true_eq]; exact hn) ?_
    refine Ev.succ ?_
    simp only [spec_NetOk.j0]
    refine Ev.pos trivial ?_
    exact Ev.ff (fun h => hn ⟨h.n0, h.n8⟩) (Ev.now _)
theorem compare (a b : Int) : cmp_Compare_int.f a b = some (if a < b then -1 else if a > b then 1 else 0) := by
  unfold cmp_Compare_int.f cmp_isNaN_int.f
  simp only [bne_self_eq_false, Option.bind_some]
  rw [if_neg (by decide), if_neg (by decide)]
  split
  · rfl
  · split <;> rfl
theorem ev_or2 (x y : Int) : Ev (fun k => cmp_Or_int.f k [x, y]) (if x = 0 then y else x) := by
  simp only [cmp_Or_int.f]
  refine Ev.succ ?_
  simp only [cmp_Or_int.l0, List.length_cons, List.length_nil]
  refine Ev.pos (by decide) (Ev.pos (by decide) (Ev.pos (by simp) ?_))
  have r0 : rd [x, y] 0 = x := rfl
  rw [r0]
  by_cases h : x = 0
  · refine Ev.pos h ?_
    rw [if_pos h]
    refine Ev.succ ?_
    simp only [cmp_Or_int.l0]
    rw [show wrap64 (0 + 1) = 1 from by unfold wrap64; omega]
    refine Ev.pos (by decide) (Ev.pos (by decide) (Ev.pos (by simp) ?_))
    have r1 : rd [x, y] 1 = y := rfl
    rw [r1]
    by_cases k : y = 0
    · refine Ev.pos k ?_
      refine Ev.succ ?_
      simp only [cmp_Or_int.l0]
      rw [show wrap64 (1 + 1) = 2 from by unfold wrap64; omega]
      refine Ev.neg (by decide) ?_
      exact Ev.some_ k.symm
    · exact Ev.neg k (Ev.now _)
  · refine Ev.neg h ?_
    rw [if_neg h]
    exact Ev.now _
theorem z4 (s t : T) : ∃ c : Int, Ev (fun k => impl_tieOrder.f k s.f0 s.f1 t.f0 t.f1) c ∧ (c < 0 ↔ lt s t) := by
  refine ⟨if (if s.f0 < t.f0 then (-1 : Int) else if s.f0 > t.f0 then 1 else 0) = 0 then (if s.f1 < t.f1 then -1 else if s.f1 > t.f1 then 1 else 0) else (if s.f0 < t.f0 then -1 else if s.f0 > t.f0 then 1 else 0), ?_, ?_⟩
  · simp only [impl_tieOrder.f]
    refine Ev.bind0 (compare _ _) (Ev.bind0 (compare _ _) (Ev.bind (ev_or2 _ _) ?_))
    exact Ev.now _
  · unfold lt
    by_cases h1 : s.f0 < t.f0
    · simp only [if_pos h1]
      rw [if_neg (by omega)]
      omega
    · by_cases h2 : s.f0 > t.f0
      · simp only [if_neg h1, if_pos h2]
        rw [if_neg (by omega)]
        omega
      · simp only [if_neg h1, if_neg h2]
        rw [if_pos trivial]
        split
        · omega
        · split <;> omega
theorem z5 (E : List T) (hE : E.length ≤ 1048576) : ∀ (d i : Nat), 0 < i → i + d = E.length → Ev (fun k => impl_ascending.l0 k E i) (AscN (E.drop (i - 1)))
  | 0, i, h0, h => by
    refine Ev.succ ?_
    simp only [impl_ascending.l0]
    refine Ev.neg (by omega) ?_
    refine Ev.some_ ?_
    have : E.drop (i - 1) = [E[i - 1]'(by omega)] := by
      rw [List.drop_eq_getElem_cons (by omega), List.drop_of_length_le (by omega)]
    rw [this]; rfl
  | d + 1, i, h0, h => by
    obtain ⟨j, rfl⟩ : ∃ j, i = j + 1 := ⟨i - 1, by omega⟩
    have hj : j < E.length := by omega
    have hj1 : j + 1 < E.length := by omega
    refine Ev.succ ?_
    simp only [impl_ascending.l0]
    have hw : wrap64 (((j + 1 : Nat) : Int) - 1) = (j : Int) := by rw [w64 (by omega)]; omega
    rw [hw]
    refine Ev.pos (by omega) (Ev.pos (by omega) (Ev.pos (by omega) (Ev.pos (by omega) ?_)))
    rw [rd_T_nat E j hj, rd_T_nat E (j + 1) hj1]
    obtain ⟨c, hc, hlt⟩ := z4 E[j] E[j + 1]
    refine Ev.bind hc ?_
    have hd : E.drop (j + 1 - 1) = E[j] :: E[j + 1] :: E.drop (j + 2) := by
      rw [Nat.add_sub_cancel, List.drop_eq_getElem_cons hj, List.drop_eq_getElem_cons hj1]
    rw [hd]
    simp only [AscN]
    by_cases h4 : c ≥ 0
    · refine Ev.pos h4 (Ev.some_ ?_)
      rw [decide_eq_false (fun k => by have := hlt.2 k; omega)]
      rfl
    · refine Ev.neg h4 ?_
      rw [w64 (by omega)]
      refine Ev.cast (z5 E hE d (j + 2) (by omega) (by omega)) ?_
      rw [decide_eq_true (hlt.1 (by omega)), show j + 2 - 1 = j + 1 from rfl, List.drop_eq_getElem_cons hj1]
      simp
theorem z6 (E : List T) (hE : E.length ≤ 1048576) : Ev (fun k => impl_ascending.f k E) (dec (Asc E)) := by
  simp only [impl_ascending.f]
  rw [← dec_of (ascN_iff E)]
  by_cases h : E.length = 0
  · refine Ev.succ ?_
    simp only [impl_ascending.l0]
    refine Ev.neg (by omega) ?_
    have : E = [] := List.length_eq_zero_iff.1 h
    subst this
    exact Ev.now _
  · have := z5 E hE (E.length - 1) 1 (by omega) (by omega)
    simpa using this
theorem z7 (n : Int) (E : List T) (hE : E.length ≤ 1048576) : ∀ (d i : Nat), i + d = E.length →
    Ev (fun k => impl_NetOk.l0 k E E.length i n E) (dec ((∀ t ∈ E.drop i, 0 ≤ t.f0 ∧ t.f0 < t.f1 ∧ t.f1 < n) ∧ Asc E))
  | 0, i, h => by
    refine Ev.succ ?_
    simp only [impl_NetOk.l0]
    refine Ev.neg (by omega) ?_
    refine Ev.bind (z6 E hE) ?_
    refine Ev.some_ (z0 ?_)
    rw [List.drop_of_length_le (by omega)]
    simp
  | d + 1, i, h => by
    have hi : i < E.length := by omega
    refine Ev.succ ?_
    simp only [impl_NetOk.l0, rd_T_nat E i hi]
    refine Ev.pos (by omega) (Ev.pos (by omega) (Ev.pos (by omega) ?_))
    rw [List.drop_eq_getElem_cons hi]
    by_cases h1 : E[i].f0 < 0
    · exact Ev.pos h1 (Ev.ff (fun a => by have := a.1 E[i] List.mem_cons_self; omega) (Ev.now _))
    · refine Ev.neg h1 ?_
      by_cases h2 : E[i].f0 ≥ E[i].f1
      · exact Ev.pos h2 (Ev.ff (fun a => by have := a.1 E[i] List.mem_cons_self; omega) (Ev.now _))
      · refine Ev.neg h2 ?_
        by_cases h3 : E[i].f1 ≥ n
        · exact Ev.pos h3 (Ev.ff (fun a => by have := a.1 E[i] List.mem_cons_self; omega) (Ev.now _))
        · refine Ev.neg h3 ?_
          rw [w64 (by omega)]
          refine Ev.cast (z7 n E hE d (i + 1) (by omega)) (z0 ?_)
          simp only [List.forall_mem_cons]
          exact ⟨fun a => ⟨⟨by omega, a.1⟩, a.2⟩, fun a => ⟨a.1.2, a.2⟩⟩
theorem z8 (n : Int) (E : List T) (hE : E.length ≤ 1048576) : Ev (fun k => impl_NetOk.f k n E) (dec (OK n E)) := by
  simp only [impl_NetOk.f]
  by_cases h0 : n < 0
  · refine Ev.pos h0 (Ev.succ ?_)
    simp only [impl_NetOk.j0]
    exact Ev.pos trivial (Ev.ff (fun h => by have := h.n0; omega) (Ev.now _))
  · refine Ev.neg h0 (Ev.succ ?_)
    simp only [impl_NetOk.j0]
    by_cases h8 : n > 8
    · exact Ev.pos (decide_eq_true h8) (Ev.ff (fun h => by have := h.n8; omega) (Ev.now _))
    · refine Ev.neg (by simp only [decide_eq_true_eq]; exact h8) ?_
      refine Ev.cast (z7 n E hE E.length 0 (by omega)) (z0 ?_)
      rw [List.drop_zero]
      exact ⟨fun h => ⟨by omega, by omega, h.1, h.2⟩, fun h => ⟨h.tie, h.asc⟩⟩
def tie (a b : Int) : T := if a < b then ⟨a, b⟩ else ⟨b, a⟩
theorem tie_comm (a b : Int) : tie a b = tie b a := by
  unfold tie
  by_cases h : a < b
  · rw [if_pos h, if_neg (by omega)]
  · by_cases k : b < a
    · rw [if_neg h, if_pos k]
    · have : a = b := by omega
      subst this; rfl
theorem l1Tie (a b : Int) : spec_l1Tie.f a b = some ((tie a b).f0, (tie a b).f1) := by
  unfold spec_l1Tie.f tie
  split <;> rfl
def Has (E : List T) (a b : Int) : Prop := tie a b ∈ E
theorem Has.symm {E : List T} {a b : Int} (h : Has E a b) : Has E b a := by unfold Has at *; rw [tie_comm]; exact h
theorem z9 (n : Int) (E : List T) (a b : Int) (hE : E.length ≤ 1048576) : ∀ (d i : Nat), i + d = E.length → Ev (fun k => spec_l1Has.l0 k a b i n E) (dec (tie a b ∈ E.drop i))
  | 0, i, h => by
    refine Ev.succ ?_
    simp only [spec_l1Has.l0]
    refine Ev.neg (by omega) (Ev.ff ?_ (Ev.now _))
    rw [List.drop_of_length_le (by omega)]; simp
  | d + 1, i, h => by
    have hi : i < E.length := by omega
    refine Ev.succ ?_
    simp only [spec_l1Has.l0, rd_T_nat E i hi]
    refine Ev.pos (by omega) (Ev.pos (by omega) (Ev.bind0 (l1Tie a b) ?_))
    rw [List.drop_eq_getElem_cons hi]
    by_cases e : E[i] = tie a b
    · exact Ev.pos (by rw [e]; simp) (Ev.tt (by rw [e]; exact List.mem_cons_self) (Ev.now _))
    · refine Ev.neg (fun k => e ?_) ?_
      · simp only [Bool.and_eq_true, beq_iff_eq] at k
        exact T.ext k.1 k.2
      · rw [w64 (by omega)]
        refine Ev.cast (z9 n E a b hE d (i + 1) (by omega)) (z0 ?_)
        rw [List.mem_cons]
        exact ⟨Or.inr, fun k => k.resolve_left (fun x => e x.symm)⟩
theorem ev_l1Has (n : Int) (E : List T) (a b : Int) (hE : E.length ≤ 1048576) : Ev (fun k => spec_l1Has.f k n E a b) (dec (Has E a b)) := by
  simp only [spec_l1Has.f]
  exact z9 n E a b hE E.length 0 (by omega)
def In (n k : Int) : Prop := 0 ≤ k ∧ k < n
instance (n k : Int) : Decidable (In n k) := inferInstanceAs (Decidable (_ ∧ _))
theorem knot_eq (n : Int) (E : List T) (a : Int) : impl_Net_knot.f n E a = some (dec (In n a)) := by
  unfold impl_Net_knot.f
  by_cases h : a ≥ 0
  · rw [if_pos h]; congr 1; exact dec_of (by unfold In; rw [decide_eq_true_iff]; omega)
  · rw [if_neg h]; congr 1; exact (dec_f (by unfold In; omega)).symm
theorem z10 (n : Int) (E : List T) (a : Int) (hE : E.length ≤ 1048576) (hw : WF E) : Ev (fun k => spec_l1Knot.f k n E a) (dec (OK n E ∧ In n a)) := by
  simp only [spec_l1Knot.f]
  refine Ev.bind (z3 n E hE hw) ?_
  by_cases h : OK n E
  · have := h.n0
    have := h.n8
    refine Ev.pos (dec_t h) ?_
    rw [w64 (by omega)]
    refine Ev.bind0 (l6In _ _ _) (Ev.some_ (dec_of ?_))
    rw [decide_eq_true_iff]
    unfold In
    exact ⟨fun k => ⟨h, by omega⟩, fun k => by omega⟩
  · exact Ev.neg (by rw [dec_f h]; simp) (Ev.ff (fun k => h k.1) (Ev.now _))
theorem z11 (n : Int) (E : List T) (a b : Int) (hE : E.length ≤ 1048576) (hw : WF E) : Ev (fun k => spec_NetHas.f k n E a b) (dec (OK n E ∧ Has E a b)) := by
  simp only [spec_NetHas.f]
  refine Ev.bind (z3 n E hE hw) ?_
  by_cases h : OK n E
  · exact Ev.pos (dec_t h) (Ev.bind (ev_l1Has n E a b hE) (Ev.some_ (z0 ⟨fun k => ⟨h, k⟩, fun k => k.2⟩)))
  · exact Ev.neg (by rw [dec_f h]; simp) (Ev.ff (fun k => h k.1) (Ev.now _))
theorem OK.has {n : Int} {E : List T} (h : OK n E) {a b : Int} (hab : Has E a b) : In n a ∧ In n b ∧ a ≠ b := by
  have := h.tie _ hab
  unfold Th.tie at this
  unfold In
  split at this <;> simp only at this <;> omega
def ks (n : Int) : List Int := (List.range n.toNat).map (fun i : Nat => (i : Int))
theorem mem_ks {n k : Int} : k ∈ ks n ↔ 0 ≤ k ∧ k < n := by
  unfold ks
  simp only [List.mem_map, List.mem_range]
  exact ⟨fun ⟨i, h, e⟩ => by omega, fun h => ⟨k.toNat, by omega, by omega⟩⟩
theorem z12 (n : Int) : (ks n).length = n.toNat := by simp [ks]
theorem z13 (n : Int) (i : Nat) (h : i < (ks n).length) : (ks n)[i] = (i : Int) := by simp [ks]
theorem z14 (n : Int) : (ks n).Pairwise (· < ·) := by
  refine List.pairwise_iff_getElem.2 (fun i j hi hj h => ?_)
  rw [z13, z13]; omega
theorem ks_nodup (n : Int) : (ks n).Nodup := (z14 n).imp (fun h => by omega)
def ksFrom (n j : Int) : List Int := (ks n).drop j.toNat
theorem z15 (n : Int) : ksFrom n 0 = ks n := by simp [ksFrom]
theorem z16 {n j : Int} (h : n ≤ j) : ksFrom n j = [] := by
  unfold ksFrom
  exact List.drop_of_length_le (by rw [z12]; omega)
theorem z17 {n j : Int} (h0 : 0 ≤ j) (h : j < n) : ksFrom n j = j :: ksFrom n (j + 1) := by
  unfold ksFrom
  rw [List.drop_eq_getElem_cons (by rw [z12]; omega), z13]
  rw [show (j + 1).toNat = j.toNat + 1 by omega]
  congr 1
  omega
theorem ks_split {n j : Int} (h0 : 0 ≤ j) (h : j < n) : ks n = ks j ++ j :: ksFrom n (j + 1) := by
  have : ks j = (ks n).take j.toNat := by
    unfold ks
    rw [← List.map_take, List.take_range, Nat.min_eq_left (by omega)]
  rw [this, ← z17 h0 h, ksFrom, List.take_append_drop]
theorem ks_succ {j : Int} (h0 : 0 ≤ j) : ks (j + 1) = ks j ++ [j] := by
  rw [ks_split h0 (by omega : j < j + 1), z16 (by omega)]
theorem rd_i (l : List Int) (x : Int) (h : 0 ≤ x) (k : x < l.length) : rd l x = l[x.toNat]'(by omega) := by
  simp [rd, List.getD_eq_getElem?_getD, List.getElem?_eq_getElem (show x.toNat < l.length by omega)]
theorem rdB_i (l : List Bool) (x : Int) (h : 0 ≤ x) (k : x < l.length) : rdOf false l x = l[x.toNat]'(by omega) := by
  simp [rdOf, List.getD_eq_getElem?_getD, List.getElem?_eq_getElem (show x.toNat < l.length by omega)]
theorem rd_set (l : List Int) (i j x : Int) (h : 0 ≤ i) (k : i < l.length) (hj : 0 ≤ j) : rd (l.set i.toNat x) j = if j = i then x else rd l j := by
  unfold rd
  simp only [List.getD_eq_getElem?_getD]
  by_cases e : j = i
  · subst e
    rw [List.getElem?_set_self (by omega), if_pos rfl]; rfl
  · rw [if_neg e, List.getElem?_set_ne (by omega)]
theorem ext_rd {a b : List Int} (h : a.length = b.length) (k : ∀ x : Int, 0 ≤ x → x < a.length → rd a x = rd b x) : a = b := by
  refine List.ext_getElem h (fun i h1 h2 => ?_)
  have := k i (by omega) (by omega)
  rw [rd_i a i (by omega) (by omega), rd_i b i (by omega) (by omega)] at this
  exact this
theorem ext_rdB {a b : List Bool} (h : a.length = b.length) (k : ∀ x : Int, 0 ≤ x → x < a.length → rdOf false a x = rdOf false b x) : a = b := by
  refine List.ext_getElem h (fun i h1 h2 => ?_)
  have := k i (by omega) (by omega)
  rw [rdB_i a i (by omega) (by omega), rdB_i b i (by omega) (by omega)] at this
  exact this
theorem rd_mapks (n : Int) (f : Int → Int) (x : Int) (h : 0 ≤ x) (k : x < n) : rd ((ks n).map f) x = f x := by
  rw [rd_i _ _ h (by rw [List.length_map, z12]; omega), List.getElem_map, z13]
  congr 1; omega
theorem z18 (n : Int) (f : Int → Bool) (x : Int) (h : 0 ≤ x) (k : x < n) : rdOf false ((ks n).map f) x = f x := by
  rw [rdB_i _ _ h (by rw [List.length_map, z12]; omega), List.getElem_map, z13]
  congr 1; omega
theorem sum_set : ∀ (l : List Int) (i : Nat) (x : Int) (h : i < l.length), (l.set i x).sum = l.sum - l[i] + x
  | [], i, x, h => by simp at h
  | a :: l, 0, x, h => by simp; omega
  | a :: l, i + 1, x, h => by
    have h' : i < l.length := by simpa using h
    have := sum_set l i x h'
    simp only [List.set_cons_succ, List.sum_cons, List.getElem_cons_succ, this]
    omega
theorem z19 : ∀ (l : List Int), (∀ x ∈ l, 0 ≤ x) → 0 ≤ l.sum
  | [], _ => by simp
  | a :: l, h => by
    have := z19 l (fun x hx => h x (by simp [hx]))
    have := h a (by simp)
    simp only [List.sum_cons]; omega
def falses : List Bool → Nat
  | [] => 0
  | b :: l => (if b then 0 else 1) + falses l
theorem all_loop {L : Nat → Nat → Option Bool} (len : Nat) (p : Nat → Prop) (hend : Ev (fun k => L k len) true) (hyes : ∀ i, i < len → p i → ∀ b, Ev (fun k => L k (i + 1)) b → Ev (fun k => L k i) b)
    (hno : ∀ i, i < len → ¬ p i → Ev (fun k => L k i) false) : ∀ d i, i + d = len → Ev (fun k => L k i) (dec (∀ j, i ≤ j → j < len → p j))
  | 0, i, h => by
    obtain rfl : i = len := by omega
    exact Ev.tt (fun j h1 h2 => by omega) hend
  | d + 1, i, h => by
    by_cases hp : p i
    · refine Ev.cast (hyes i (by omega) hp _ (all_loop len p hend hyes hno d (i + 1) (by omega))) (z0 ?_)
      constructor
      · intro a j h1 h2
        by_cases e : j = i
        · subst e; exact hp
        · exact a j (by omega) h2
      · intro a j h1 h2; exact a j (by omega) h2
    · exact Ev.ff (fun a => hp (a i (Nat.le_refl _) (by omega))) (hno i (by omega) hp)
theorem any_loop {L : Nat → Nat → Option Bool} (len : Nat) (p : Nat → Prop) (hend : Ev (fun k => L k len) false) (hno : ∀ i, i < len → ¬ p i → ∀ b, Ev (fun k => L k (i + 1)) b → Ev (fun k => L k i) b)
    (hyes : ∀ i, i < len → p i → Ev (fun k => L k i) true) : ∀ d i, i + d = len → Ev (fun k => L k i) (dec (∃ j, i ≤ j ∧ j < len ∧ p j))
  | 0, i, h => by
    obtain rfl : i = len := by omega
    exact Ev.ff (fun ⟨j, h1, h2, _⟩ => by omega) hend
  | d + 1, i, h => by
    by_cases hp : p i
    · exact Ev.tt ⟨i, Nat.le_refl _, by omega, hp⟩ (hyes i (by omega) hp)
    · refine Ev.cast (hno i (by omega) hp _ (any_loop len p hend hno hyes d (i + 1) (by omega))) (z0 ?_)
      constructor
      · rintro ⟨j, h1, h2, h3⟩; exact ⟨j, by omega, h2, h3⟩
      · rintro ⟨j, h1, h2, h3⟩
        by_cases e : j = i
        · subst e; exact absurd h3 hp
        · exact ⟨j, by omega, h2, h3⟩
theorem z20 (l : List Int) (i : Nat) (h : i < l.length) : rd l (i : Int) = l[i] := by
  rw [rd_nat, List.getD_eq_getElem?_getD, List.getElem?_eq_getElem h, Option.getD_some]
theorem z21 (l : List Int) (x : Int) : x ∈ l ↔ ∃ j, 0 ≤ j ∧ j < l.length ∧ rd l (j : Int) = x := by
  rw [List.mem_iff_getElem]
  constructor
  · rintro ⟨j, h, e⟩; exact ⟨j, Nat.zero_le _, h, by rw [z20 l j h]; exact e⟩
  · rintro ⟨j, _, h, e⟩; exact ⟨j, h, by rw [← z20 l j h]; exact e⟩
inductive Conn (E : List T) : Int → Int → Prop
  | refl (a : Int) : Conn E a a
  | step {a b c : Int} : Conn E a b → Has E b c → Conn E a c
theorem Conn.one {E : List T} {a b : Int} (h : Has E a b) : Conn E a b := .step (.refl a) h
theorem Conn.trans {E : List T} {a b c : Int} (h : Conn E a b) (k : Conn E b c) : Conn E a c := by
  induction k with
  | refl => exact h
  | step _ m ih => exact .step ih m
theorem Conn.symm {E : List T} {a b : Int} (h : Conn E a b) : Conn E b a := by
  induction h with
  | refl => exact .refl _
  | step _ m ih => exact (Conn.one m.symm).trans ih
theorem Conn.keeps {E : List T} {P : Int → Prop} (h : ∀ a b, Has E a b → P a → P b) {a b : Int} (k : Conn E a b) (ha : P a) : P b := by
  induction k with
  | refl => exact ha
  | step _ m ih => exact h _ _ m ih
theorem Conn.inNet {n : Int} {E : List T} (h : OK n E) {a b : Int} (k : Conn E a b) (ha : In n a) : In n b := k.keeps (fun _ _ m _ => (h.has m).2.1) ha
theorem tie_self {n : Int} {E : List T} (h : OK n E) {t : T} (ht : t ∈ E) : tie t.f0 t.f1 = t := by
  have := h.tie t ht
  unfold tie
  rw [if_pos (by omega)]
theorem z22 {n : Int} {E : List T} (h : OK n E) {t : T} (ht : t ∈ E) : Has E t.f0 t.f1 := by
  unfold Has; rw [tie_self h ht]; exact ht
theorem z23 {t : T} (h : t.f0 < t.f1) : tie t.f0 t.f1 = t := by unfold tie; rw [if_pos h]
theorem z24 {a b : Int} {t : T} (h : t.f0 < t.f1) : tie a b = t ↔ (a = t.f0 ∧ b = t.f1) ∨ (a = t.f1 ∧ b = t.f0) := by
  constructor
  · intro e
    unfold tie at e
    split at e <;> subst e
    · exact Or.inl ⟨rfl, rfl⟩
    · exact Or.inr ⟨rfl, rfl⟩
  · rintro (⟨rfl, rfl⟩ | ⟨rfl, rfl⟩)
    · exact z23 h
    · rw [tie_comm]; exact z23 h
theorem tie_inj {a b c d : Int} (h : tie a b = tie c d) : (a = c ∧ b = d) ∨ (a = d ∧ b = c) := by
  unfold tie at h
  split at h <;> split at h <;> simp only [S52.mk.injEq] at h <;> omega
theorem OK.filter {n : Int} {E : List T} (h : OK n E) (p : T → Bool) : OK n (E.filter p) :=
  ⟨h.n0, h.n8, fun t ht => h.tie t (List.mem_filter.1 ht).1, h.asc.filter p⟩
theorem OK.nil {n : Int} (h0 : 0 ≤ n) (h8 : n ≤ 8) : OK n [] := ⟨h0, h8, by simp, List.Pairwise.nil⟩
theorem OK.nodup {n : Int} {E : List T} (h : OK n E) : E.Nodup := h.asc.imp (fun h e => by subst e; exact lt_irrefl _ h)
noncomputable def less (E : List T) (p : T → Prop) : List T := E.filter (fun t => !dec (p t))
theorem mem_less {E : List T} {p : T → Prop} {t : T} : t ∈ less E p ↔ t ∈ E ∧ ¬ p t := by
  unfold less
  rw [List.mem_filter]
  by_cases h : p t
  · rw [dec_t h]; simp [h]
  · rw [dec_f h]; simp [h]
theorem OK.less {n : Int} {E : List T} (h : OK n E) (p : T → Prop) : OK n (less E p) := h.filter _
theorem z25 {E : List T} {p q : T → Prop} (h : ∀ t ∈ E, p t ↔ q t) : less E p = less E q := by
  unfold less
  refine List.filter_congr (fun t ht => ?_)
  rw [z0 (h t ht)]
theorem z26 {E : List T} {p : T → Prop} (h : ∀ t ∈ E, ¬ p t) : less E p = E := by
  unfold less
  refine List.filter_eq_self.2 (fun t ht => ?_)
  rw [dec_f (h t ht)]; rfl
theorem z27 (E : List T) (p q : T → Prop) : less (less E p) q = less E (fun t => p t ∨ q t) := by
  unfold less
  rw [List.filter_filter]
  refine List.filter_congr (fun t _ => ?_)
  by_cases h : p t
  · rw [dec_t h, dec_t (Or.inl h : p t ∨ q t)]; simp
  · by_cases k : q t
    · rw [dec_t k, dec_t (Or.inr k : p t ∨ q t)]; simp
    · rw [dec_f h, dec_f k, dec_f (not_or.2 ⟨h, k⟩ : ¬ (p t ∨ q t))]; simp
abbrev AtK (k : Int) (t : T) : Prop := t.f0 = k ∨ t.f1 = k
noncomputable abbrev lessK (E : List T) (k : Int) : List T := less E (AtK k)
theorem z28 {t : T} {E : List T} {p : T → Prop} (h : p t) : less (t :: E) p = less E p := by
  unfold less
  rw [List.filter_cons_of_neg (p := fun t => !dec (p t)) (by rw [dec_t h]; simp)]
theorem z29 {t : T} {E : List T} {p : T → Prop} (h : ¬ p t) : less (t :: E) p = t :: less E p := by
  unfold less
  rw [List.filter_cons_of_pos (p := fun t => !dec (p t)) (by rw [dec_f h]; rfl)]
theorem z30 (E : List T) (p : T → Prop) : (less E p).length ≤ E.length := List.length_filter_le _ _
noncomputable def rep (E : List T) (i : Int) : Int := ((ks (i + 1)).find? (fun j => dec (Conn E j i))).getD 0
theorem rep_spec (E : List T) {i : Int} (h : 0 ≤ i) : Conn E (rep E i) i ∧ 0 ≤ rep E i ∧ rep E i ≤ i ∧ ∀ j, 0 ≤ j → Conn E j i → rep E i ≤ j := by
  unfold rep
  cases e : (ks (i + 1)).find? (fun j => dec (Conn E j i)) with
  | none =>
    rw [List.find?_eq_none] at e
    exact absurd (dec_t (Conn.refl i)) (by have := e i (mem_ks.2 (by omega)); simpa using this)
  | some x =>
    obtain ⟨h1, l1, l2, h2, h3⟩ := List.find?_eq_some_iff_append.1 e
    have hx : x ∈ ks (i + 1) := by rw [h2]; simp
    have hx' := mem_ks.1 hx
    refine ⟨dec_iff.1 h1, hx'.1, by simp only [Option.getD_some]; omega, fun j hj hc => ?_⟩
    simp only [Option.getD_some]
    by_cases hji : j ≤ i
    · have hj' : j ∈ ks (i + 1) := mem_ks.2 (by omega)
      have hp := z14 (i + 1)
      rw [h2] at hj' hp
      rcases List.mem_append.1 hj' with m | m
      · have := h3 j m
        rw [dec_t hc] at this
        exact absurd this (by simp)
      · rcases List.mem_cons.1 m with rfl | m
        · exact Int.le_refl _
        · have := (List.pairwise_cons.1 (List.pairwise_append.1 hp).2.1).1 j m
          omega
    · omega
theorem rep_conn (E : List T) {i : Int} (h : 0 ≤ i) : Conn E (rep E i) i := (rep_spec E h).1
theorem z31 (E : List T) {i : Int} (h : 0 ≤ i) : 0 ≤ rep E i := (rep_spec E h).2.1
theorem z32 (E : List T) {i : Int} (h : 0 ≤ i) {j : Int} (hj : 0 ≤ j) (hc : Conn E j i) : rep E i ≤ j := (rep_spec E h).2.2.2 j hj hc
theorem rep_iff (E : List T) {a b : Int} (ha : 0 ≤ a) (hb : 0 ≤ b) : rep E a = rep E b ↔ Conn E a b := by
  constructor
  · intro e
    have := rep_conn E ha
    rw [e] at this
    exact this.symm.trans (rep_conn E hb)
  · intro hc
    have h1 := z32 E ha (z31 E hb) ((rep_conn E hb).trans hc.symm)
    have h2 := z32 E hb (z31 E ha) ((rep_conn E ha).trans hc)
    omega
theorem z33 (E : List T) {i x : Int} (h : 0 ≤ i) (hx : 0 ≤ x) (hc : Conn E x i) (hl : ∀ j, 0 ≤ j → Conn E j i → x ≤ j) : rep E i = x := by
  have h1 := z32 E h hx hc
  have h2 := hl _ (z31 E h) (rep_conn E h)
  omega
noncomputable def partsL (n : Int) (E : List T) : List Int := (ks n).map (rep E)
noncomputable def reachL (n : Int) (E : List T) (a : Int) : List Bool := (ks n).map (fun b => dec (Conn E a b))
def Walk (R : Int → Int → Prop) : List Int → Prop
  | [] => True
  | [_] => True
  | a :: b :: l => R a b ∧ Walk R (b :: l)
theorem walk_iff (R : Int → Int → Prop) : ∀ w : List Int, Walk R w ↔ ∀ j : Nat, j + 1 < w.length → R (rd w (j : Int)) (rd w ((j + 1 : Nat) : Int))
  | [] => by simp [Walk]
  | [_] => by simp [Walk]
  | a :: b :: l => by
    rw [Walk, walk_iff R (b :: l)]
    constructor
    · rintro ⟨h, k⟩ j hj
      cases j with
      | zero => simpa [rd] using h
      | succ j =>
        have := k j (by simp at hj ⊢; omega)
        rw [rd_nat, rd_nat] at this ⊢
        simpa using this
    · intro h
      refine ⟨by simpa [rd] using h 0 (by simp), fun j hj => ?_⟩
      have := h (j + 1) (by simp at hj ⊢; omega)
      rw [rd_nat, rd_nat] at this ⊢
      simpa using this
theorem nodup_iff (w : List Int) : w.Nodup ↔ ∀ j : Nat, j < w.length → rd w (j : Int) ∉ w.take j := by
  unfold List.Nodup
  rw [List.pairwise_iff_getElem]
  constructor
  · intro h j hj hm
    rw [z20 w j hj] at hm
    obtain ⟨i, hi, e⟩ := List.mem_iff_getElem.1 hm
    have hi' : i < j := by simp at hi; omega
    exact h i j (by omega) hj hi' (by simpa using e)
  · intro h i j hi hj hij e
    refine h j hj ?_
    rw [z20 w j hj, ← e]
    exact List.mem_iff_getElem.2 ⟨i, by simp; omega, by simp⟩
structure IsWay (n : Int) (E : List T) (w : List Int) : Prop where
  ne : w ≠ []
  inn : ∀ v ∈ w, In n v
  nd : w.Nodup
  walk : Walk (Has E) w
def WayAt (n : Int) (E : List T) (w : List Int) (j : Nat) : Prop := In n (rd w (j : Int)) ∧ rd w (j : Int) ∉ w.take j ∧ (0 < j → Has E (rd w ((j - 1 : Nat) : Int)) (rd w (j : Int)))
theorem z34 (n : Int) (E : List T) (w : List Int) : IsWay n E w ↔ w ≠ [] ∧ ∀ j, 0 ≤ j → j < w.length → WayAt n E w j := by
  constructor
  · intro h
    refine ⟨h.ne, fun j _ hj => ⟨h.inn _ (by rw [z20 w j hj]; exact List.getElem_mem hj), (nodup_iff w).1 h.nd j hj, fun h0 => ?_⟩⟩
    have := (walk_iff _ w).1 h.walk (j - 1) (by omega)
    rwa [show j - 1 + 1 = j by omega] at this
  · rintro ⟨h0, h⟩
    refine ⟨h0, fun v hv => ?_, (nodup_iff w).2 fun j hj => (h j (Nat.zero_le _) hj).2.1, (walk_iff _ w).2 fun j hj => ?_⟩
    · obtain ⟨j, _, hj, rfl⟩ := (z21 w v).1 hv
      exact (h j (Nat.zero_le _) hj).1
    · exact (h (j + 1) (Nat.zero_le _) hj).2.2 (by omega)
def Leads (n : Int) (E : List T) (a b : Int) (w : List Int) : Prop := OK n E ∧ IsWay n E w ∧ rd w 0 = a ∧ rd w ((w.length : Int) - 1) = b
theorem Leads.pos {n : Int} {E : List T} {a b : Int} {w : List Int} (h : Leads n E a b w) : 0 < w.length := List.length_pos_iff.2 h.2.1.ne
theorem z35 (R : Int → Int → Prop) (a b : Int) (l : List Int) : Walk R (a :: b :: l) ↔ R a b ∧ Walk R (b :: l) := Iff.rfl
theorem walk_app (R : Int → Int → Prop) : ∀ (A : List Int) (k : Int) (B : List Int), Walk R (A ++ k :: B) ↔ Walk R (A ++ [k]) ∧ Walk R (k :: B)
  | [], k, B => by simp [Walk]
  | [a], k, B => by simp [Walk]
  | a :: b :: A, k, B => by
    have := walk_app R (b :: A) k B
    simp only [List.cons_append, z35] at this ⊢
    rw [this, and_assoc]
def es : List Int → List T
  | [] => []
  | [_] => []
  | a :: b :: l => tie a b :: es (b :: l)
theorem es_app : ∀ (A : List Int) (k : Int) (B : List Int), es (A ++ k :: B) = es (A ++ [k]) ++ es (k :: B)
  | [], k, B => by simp [es]
  | [a], k, B => by simp [es]
  | a :: b :: A, k, B => by
    have := es_app (b :: A) k B
    simp only [List.cons_append, es] at this ⊢
    rw [this]
theorem z37 : ∀ (w : List Int) (t : T), t ∈ es w.reverse ↔ t ∈ es w
  | [], t => by simp
  | [_], t => by simp
  | a :: b :: l, t => by
    have ih := z37 (b :: l) t
    rw [List.reverse_cons] at ih ⊢
    rw [List.reverse_cons, List.append_assoc, List.singleton_append, es_app, List.mem_append, ih]
    simp only [es, List.mem_cons, List.not_mem_nil, or_false]
    rw [tie_comm b a]
    exact Or.comm
theorem mem_es {t : T} : ∀ {w : List Int}, t ∈ es w → ∃ A k x B, w = A ++ k :: x :: B ∧ tie k x = t
  | [], h => by simp [es] at h
  | [_], h => by simp [es] at h
  | a :: b :: l, h => by
    simp only [es, List.mem_cons] at h
    rcases h with h | h
    · exact ⟨[], a, b, l, rfl, h.symm⟩
    · obtain ⟨A, k, x, B, e, ht⟩ := mem_es (w := b :: l) h
      exact ⟨a :: A, k, x, B, by rw [e]; rfl, ht⟩
theorem walk_es {E : List T} : ∀ {w : List Int}, Walk (Has E) w ↔ ∀ t ∈ es w, t ∈ E
  | [] => by simp [Walk, es]
  | [_] => by simp [Walk, es]
  | a :: b :: l => by
    rw [z35, walk_es (w := b :: l)]
    simp only [es, List.mem_cons, forall_eq_or_imp]
    exact Iff.rfl
structure Path (E : List T) (a b : Int) (w : List Int) : Prop where
  nd : w.Nodup
  walk : Walk (Has E) w
  hd : w.head? = some a
  lst : w.getLast? = some b
theorem Path.ne {E : List T} {a b : Int} {w : List Int} (p : Path E a b w) : w ≠ [] := by
  rintro rfl; have := p.hd; simp at this
theorem Path.single (E : List T) (a : Int) : Path E a a [a] := ⟨by simp, trivial, rfl, rfl⟩
theorem Path.cons_eq {E : List T} {a b : Int} {w : List Int} (p : Path E a b w) : ∃ r, w = a :: r := by
  cases w with
  | nil => exact absurd rfl p.ne
  | cons x r => have := p.hd; simp at this; exact ⟨r, by rw [this]⟩
theorem Path.drop {E : List T} {a b k : Int} {A B : List Int} (p : Path E a b (A ++ k :: B)) : Path E k b (k :: B) :=
  ⟨(List.nodup_append.1 p.nd).2.1, ((walk_app _ _ _ _).1 p.walk).2, rfl, by have := p.lst; rw [List.getLast?_append] at this; simpa using this⟩
theorem Path.take {E : List T} {a b k : Int} {A B : List Int} (p : Path E a b (A ++ k :: B)) : Path E a k (A ++ [k]) := by
  refine ⟨?_, ((walk_app _ _ _ _).1 p.walk).1, ?_, by simp⟩
  · have := p.nd
    rw [List.nodup_append] at this ⊢
    refine ⟨this.1, by simp, fun x hx y hy => ?_⟩
    simp only [List.mem_singleton] at hy
    subst hy
    exact this.2.2 x hx y (by simp)
  · have := p.hd
    cases A <;> simpa using this
theorem Path.consP {E : List T} {k a b : Int} {w : List Int} (p : Path E a b w) (h : Has E k a) (hk : k ∉ w) : Path E k b (k :: w) := by
  obtain ⟨r, rfl⟩ := p.cons_eq
  exact ⟨List.nodup_cons.2 ⟨hk, p.nd⟩, ⟨h, p.walk⟩, rfl, by have := p.lst; simpa using this⟩
theorem Path.conn {E : List T} : ∀ {w : List Int} {a b : Int}, Path E a b w → Conn E a b
  | [], a, b, p => absurd rfl p.ne
  | [x], a, b, p => by
    have h := p.hd; have l := p.lst
    simp at h l
    subst h; subst l
    exact .refl _
  | x :: y :: r, a, b, p => by
    have h := p.hd
    simp at h
    subst h
    have q : Path E y b (y :: r) := Path.drop (A := [x]) p
    exact (Conn.one p.walk.1).trans q.conn
theorem Path.conn_mem {E : List T} {w : List Int} {a b : Int} (p : Path E a b w) {x : Int} (hx : x ∈ w) : Conn E a x := by
  obtain ⟨A, B, rfl⟩ := List.append_of_mem hx
  exact p.take.conn
def Side (E : List T) (s t : T) : Prop := ∃ k x y, s = tie k x ∧ t = tie k y ∧ x ≠ k ∧ y ≠ k ∧ Conn (lessK E k) x y
inductive Chain (E : List T) (s : T) : T → Prop
  | refl : Chain E s s
  | step {t u : T} : Chain E s t → u ∈ E → Side E t u → Chain E s u
theorem z38 {E : List T} {a b : Int} {w : List Int} {s : T} (p : Path E a b w) (h : s ∈ es w) : s ∈ E := walk_es.1 p.walk s h
def Two2 (n : Int) (E : List T) (a b : Int) : Prop := OK n E ∧ In n a ∧ In n b ∧ a ≠ b
theorem z39 (n : Int) (E : List T) (a b : Int) (hE : E.length ≤ 1048576) : Ev (fun k => impl_twoKnots.f k n E a b) (dec (Two2 n E a b)) := by
  simp only [impl_twoKnots.f]
  refine Ev.bind (z8 n E hE) ?_
  by_cases h : OK n E
  · refine Ev.pos (dec_t h) (Ev.bind0 (knot_eq n E a) ?_)
    by_cases ha : In n a
    · refine Ev.pos (dec_t ha) (Ev.bind0 (knot_eq n E b) ?_)
      by_cases hb : In n b
      · refine Ev.pos (dec_t hb) (Ev.some_ (dec_of ?_))
        rw [bne_iff_ne]
        exact ⟨fun k => ⟨h, ha, hb, k⟩, fun k => k.2.2.2⟩
      · exact Ev.neg (by rw [dec_f hb]; simp) (Ev.ff (fun k => hb k.2.2.1) (Ev.now _))
    · exact Ev.neg (by rw [dec_f ha]; simp) (Ev.ff (fun k => ha k.2.1) (Ev.now _))
  · exact Ev.neg (by rw [dec_f h]; simp) (Ev.ff (fun k => h k.1) (Ev.now _))
theorem z40 (E : List T) (s : T) (hE : E.length ≤ 1048576) : ∀ (d i : Nat), i + d = E.length → ∃ c : Int, Ev (fun k => slices_Index_impl_Tie_impl_Tie.l0 k E E.length i s.f0 s.f1) c ∧ (c ≥ 0 ↔ s ∈ E.drop i)
  | 0, i, h => by
    refine ⟨-1, Ev.succ ?_, ?_⟩
    · simp only [slices_Index_impl_Tie_impl_Tie.l0]
      exact Ev.neg (by omega) (Ev.now _)
    · rw [List.drop_of_length_le (by omega)]; simp
  | d + 1, i, h => by
    have hi : i < E.length := by omega
    by_cases e : s = E[i]
    · refine ⟨i, Ev.succ ?_, ?_⟩
      · simp only [slices_Index_impl_Tie_impl_Tie.l0, rd_T_nat E i hi]
        refine Ev.pos (by omega) (Ev.pos (by omega) (Ev.pos (by omega) (Ev.pos (by rw [e]; simp) (Ev.now _))))
      · rw [List.drop_eq_getElem_cons hi]
        exact ⟨fun _ => by rw [e]; exact List.mem_cons_self, fun _ => by omega⟩
    · obtain ⟨c, hc, hm⟩ := z40 E s hE d (i + 1) (by omega)
      refine ⟨c, Ev.succ ?_, ?_⟩
      · simp only [slices_Index_impl_Tie_impl_Tie.l0, rd_T_nat E i hi]
        refine Ev.pos (by omega) (Ev.pos (by omega) (Ev.pos (by omega) (Ev.neg (fun k => e ?_) ?_)))
        · simp only [Bool.and_eq_true, beq_iff_eq] at k
          exact T.ext k.1 k.2
        · rw [w64 (by omega)]
          exact hc
      · rw [List.drop_eq_getElem_cons hi, List.mem_cons, hm]
        exact ⟨Or.inr, fun k => k.resolve_left e⟩
theorem z41 (E : List T) (s : T) (hE : E.length ≤ 1048576) : Ev (fun k => slices_Contains_impl_Tie_impl_Tie.f k E s.f0 s.f1) (dec (s ∈ E)) := by
  obtain ⟨c, hc, hm⟩ := z40 E s hE E.length 0 (by omega)
  simp only [slices_Contains_impl_Tie_impl_Tie.f, slices_Index_impl_Tie_impl_Tie.f]
  refine Ev.bind hc (Ev.some_ (dec_of ?_))
  rw [decide_eq_true_iff, hm, List.drop_zero]
theorem z42 (a b : Int) : impl_tie.f a b = some ((tie a b).f0, (tie a b).f1) := by
  unfold impl_tie.f tie mn mx
  by_cases h : a < b
  · rw [if_pos h, if_pos h, if_neg (by omega)]
  · rw [if_neg h, if_neg h]
    by_cases k : b < a
    · rw [if_pos k]
    · rw [if_neg k]
      have e : a = b := by omega
      subst e; rfl
theorem ev_has (n : Int) (E : List T) (a b : Int) (hE : E.length ≤ 1048576) : Ev (fun k => impl_Net_has.f k n E a b) (dec (Has E a b)) := by
  simp only [impl_Net_has.f]
  exact Ev.bind0 (z42 a b) (Ev.bind (z41 E (tie a b) hE) (Ev.now _))
theorem z43 (l : List Int) (x : Int) (hl : l.length ≤ 1048576) : ∀ (d i : Nat), i + d = l.length → ∃ c : Int, Ev (fun k => slices_Index_int_int.l0 k l x l.length i) c ∧ (c ≥ 0 ↔ x ∈ l.drop i)
  | 0, i, h => by
    refine ⟨-1, Ev.succ ?_, ?_⟩
    · simp only [slices_Index_int_int.l0]
      exact Ev.neg (by omega) (Ev.now _)
    · rw [List.drop_of_length_le (by omega)]; simp
  | d + 1, i, h => by
    have hi : i < l.length := by omega
    by_cases e : x = l[i]
    · refine ⟨i, Ev.succ ?_, ?_⟩
      · simp only [slices_Index_int_int.l0, z20 l i hi]
        exact Ev.pos (by omega) (Ev.pos (by omega) (Ev.pos (by omega) (Ev.pos e (Ev.now _))))
      · rw [List.drop_eq_getElem_cons hi]
        exact ⟨fun _ => by rw [e]; exact List.mem_cons_self, fun _ => by omega⟩
    · obtain ⟨c, hc, hm⟩ := z43 l x hl d (i + 1) (by omega)
      refine ⟨c, Ev.succ ?_, ?_⟩
      · simp only [slices_Index_int_int.l0, z20 l i hi]
        refine Ev.pos (by omega) (Ev.pos (by omega) (Ev.pos (by omega) (Ev.neg e ?_)))
        rw [w64 (by omega)]
        exact hc
      · rw [List.drop_eq_getElem_cons hi, List.mem_cons, hm]
        exact ⟨Or.inr, fun k => k.resolve_left e⟩
theorem z44 (l : List Int) (x : Int) (hl : l.length ≤ 1048576) : Ev (fun k => slices_Contains_int_int.f k l x) (dec (x ∈ l)) := by
  obtain ⟨c, hc, hm⟩ := z43 l x hl l.length 0 (by omega)
  simp only [slices_Contains_int_int.f, slices_Index_int_int.f]
  refine Ev.bind hc (Ev.some_ (dec_of ?_))
  rw [decide_eq_true_iff, hm, List.drop_zero]
theorem ev_l2Has (l : List Int) (x : Int) (hl : l.length ≤ 1048576) : Ev (fun k => spec_l2Has.f k l x) (dec (x ∈ l)) := by
  simp only [spec_l2Has.f]
  have := any_loop (L := fun k i => spec_l2Has.l0 k l x i) l.length (fun j => rd l (j : Int) = x) ?_ ?_ ?_ l.length 0 (by omega)
  · exact Ev.cast this (z0 (z21 l x).symm)
  · refine Ev.succ ?_
    simp only [spec_l2Has.l0]
    exact Ev.neg (by omega) (Ev.now _)
  · intro i hi hp b hb
    refine Ev.succ ?_
    simp only [spec_l2Has.l0]
    refine Ev.pos (by omega) (Ev.pos (by omega) (Ev.neg hp ?_))
    rw [w64 (by omega)]
    exact hb
  · intro i hi hp
    refine Ev.succ ?_
    simp only [spec_l2Has.l0]
    exact Ev.pos (by omega) (Ev.pos (by omega) (Ev.pos hp (Ev.now _)))
theorem z45 (n : Int) (E : List T) (w : List Int) (hE : E.length ≤ 1048576) (hw : WF E) (hl : w.length ≤ 1048576) : Ev (fun k => spec_WayOk.f k n E w) (dec (OK n E ∧ IsWay n E w)) := by
  simp only [spec_WayOk.f]
  refine Ev.bind (z3 n E hE hw) ?_
  by_cases ok : OK n E
  · refine Ev.pos (dec_t ok) (Ev.succ ?_)
    simp only [spec_WayOk.j0]
    by_cases h0 : (w.length : Int) < 1
    · refine Ev.pos (decide_eq_true h0) (Ev.ff (fun h => h.2.ne (List.length_eq_zero_iff.1 (by omega))) (Ev.now _))
    · refine Ev.neg (by simp only [decide_eq_true_eq]; exact h0) ?_
      have := all_loop (L := fun k i => spec_WayOk.l0 k w i n E) w.length (WayAt n E w) ?_ ?_ ?_ w.length 0 (by omega)
      · refine Ev.cast this (z0 ?_)
        rw [z34]
        exact ⟨fun h => ⟨ok, fun e => by subst e; simp at h0, h⟩, fun h => h.2.2⟩
      · refine Ev.succ ?_
        simp only [spec_WayOk.l0]
        exact Ev.neg (by omega) (Ev.now _)
      · intro i hi hp b hb
        refine Ev.succ ?_
        simp only [spec_WayOk.l0]
        refine Ev.pos (by omega) (Ev.pos (by omega) (Ev.bind (z10 n E _ hE hw) (Ev.pos (dec_t ⟨ok, hp.1⟩) (Ev.pos (by omega) ?_))))
        rw [Int.toNat_natCast]
        refine Ev.bind (ev_l2Has _ _ (by simp; omega)) (Ev.neg (by rw [dec_f hp.2.1]; simp) ?_)
        cases i with
        | zero => exact Ev.neg (by omega) (by rw [w64 (by omega)]; exact hb)
        | succ j =>
          refine Ev.pos (by omega) ?_
          have hj : wrap64 (((j + 1 : Nat) : Int) - 1) = (j : Int) := by rw [w64 (by omega)]; omega
          rw [hj]
          refine Ev.pos (by omega) (Ev.pos (by omega) (Ev.bind (z11 n E _ _ hE hw) (Ev.pos (dec_t ⟨ok, hp.2.2 (by omega)⟩) ?_)))
          rw [w64 (by omega)]; exact hb
      · intro i hi hp
        refine Ev.succ ?_
        simp only [spec_WayOk.l0]
        refine Ev.pos (by omega) (Ev.pos (by omega) (Ev.bind (z10 n E _ hE hw) ?_))
        by_cases h1 : In n (rd w (i : Int))
        · refine Ev.pos (dec_t ⟨ok, h1⟩) (Ev.pos (by omega) ?_)
          rw [Int.toNat_natCast]
          refine Ev.bind (ev_l2Has _ _ (by simp; omega)) ?_
          by_cases h2 : rd w (i : Int) ∈ w.take i
          · exact Ev.pos (dec_t h2) (Ev.now _)
          · refine Ev.neg (by rw [dec_f h2]; simp) ?_
            cases i with
            | zero => exact absurd ⟨h1, h2, fun h => absurd h (by omega)⟩ hp
            | succ j =>
              refine Ev.pos (by omega) ?_
              have hj : wrap64 (((j + 1 : Nat) : Int) - 1) = (j : Int) := by rw [w64 (by omega)]; omega
              rw [hj]
              refine Ev.pos (by omega) (Ev.pos (by omega) (Ev.bind (z11 n E _ _ hE hw) (Ev.neg ?_ (Ev.now _))))
              rw [dec_f (fun h => hp ⟨h1, h2, fun _ => h.2⟩)]; simp
        · exact Ev.neg (by rw [dec_f (fun h => h1 h.2)]; simp) (Ev.now _)
  · refine Ev.neg (by rw [dec_f ok]; simp) (Ev.succ ?_)
    simp only [spec_WayOk.j0]
    exact Ev.pos trivial (Ev.ff (fun h => ok h.1) (Ev.now _))
theorem ev_walk (n : Int) (E : List T) (w : List Int) (hE : E.length ≤ 1048576) (hl : w.length ≤ 1048576) : Ev (fun k => impl_Net_walk.f k n E w) (dec ((∀ v ∈ w, In n v) ∧ Walk (Has E) w)) := by
  simp only [impl_Net_walk.f]
  have := all_loop (L := fun k i => impl_Net_walk.l0 k w w w.length i n E) w.length (fun j => In n (rd w (j : Int)) ∧ (0 < j → Has E (rd w ((j - 1 : Nat) : Int)) (rd w (j : Int)))) ?_ ?_ ?_ w.length 0 (by omega)
  · refine Ev.cast this (z0 ?_)
    constructor
    · intro h
      refine ⟨fun v hv => ?_, (walk_iff _ w).2 fun j hj => (h (j + 1) (Nat.zero_le _) hj).2 (by omega)⟩
      obtain ⟨j, _, hj, rfl⟩ := (z21 w v).1 hv
      exact (h j (Nat.zero_le _) hj).1
    · intro h j _ hj
      refine ⟨h.1 _ (by rw [z20 w j hj]; exact List.getElem_mem hj), fun h0 => ?_⟩
      have := (walk_iff _ w).1 h.2 (j - 1) (by omega)
      rwa [show j - 1 + 1 = j by omega] at this
  · refine Ev.succ ?_
    simp only [impl_Net_walk.l0]
    exact Ev.neg (by omega) (Ev.now _)
  · intro i hi hp b hb
    refine Ev.succ ?_
    simp only [impl_Net_walk.l0]
    refine Ev.pos (by omega) (Ev.pos (by omega) (Ev.pos (by omega) (Ev.bind0 (knot_eq n E _) (Ev.pos (dec_t hp.1) ?_))))
    cases i with
    | zero => exact Ev.neg (by omega) (by rw [w64 (by omega)]; exact hb)
    | succ j =>
      refine Ev.pos (by omega) ?_
      have hj : wrap64 (((j + 1 : Nat) : Int) - 1) = (j : Int) := by rw [w64 (by omega)]; omega
      rw [hj]
      refine Ev.pos (by omega) (Ev.pos (by omega) (Ev.bind (ev_has n E _ _ hE) (Ev.pos (dec_t (hp.2 (by omega))) ?_)))
      rw [w64 (by omega)]; exact hb
  · intro i hi hp
    refine Ev.succ ?_
    simp only [impl_Net_walk.l0]
    refine Ev.pos (by omega) (Ev.pos (by omega) (Ev.pos (by omega) (Ev.bind0 (knot_eq n E _) ?_)))
    by_cases h1 : In n (rd w (i : Int))
    · refine Ev.pos (dec_t h1) ?_
      cases i with
      | zero => exact absurd ⟨h1, fun h => absurd h (by omega)⟩ hp
      | succ j =>
        refine Ev.pos (by omega) ?_
        have hj : wrap64 (((j + 1 : Nat) : Int) - 1) = (j : Int) := by rw [w64 (by omega)]; omega
        rw [hj]
        refine Ev.pos (by omega) (Ev.pos (by omega) (Ev.bind (ev_has n E _ _ hE) (Ev.neg ?_ (Ev.now _))))
        rw [dec_f (show ¬ Has E (rd w (j : Int)) (rd w ((j + 1 : Nat) : Int)) from fun h => hp ⟨h1, fun _ => h⟩)]; simp
    · exact Ev.neg (by rw [dec_f h1]; simp) (Ev.now _)
theorem z46 (w : List Int) (hl : w.length ≤ 1048576) : Ev (fun k => impl_different.f k w) (dec w.Nodup) := by
  simp only [impl_different.f]
  have := all_loop (L := fun k i => impl_different.l0 k w w w.length i) w.length (fun j => rd w (j : Int) ∉ w.take j) ?_ ?_ ?_ w.length 0 (by omega)
  · refine Ev.cast this (z0 ?_)
    rw [nodup_iff]
    exact ⟨fun h j hj => h j (Nat.zero_le _) hj, fun h j _ hj => h j hj⟩
  · refine Ev.succ ?_
    simp only [impl_different.l0]
    exact Ev.neg (by omega) (Ev.now _)
  · intro i hi hp b hb
    refine Ev.succ ?_
    simp only [impl_different.l0]
    refine Ev.pos (by omega) (Ev.pos (by omega) (Ev.pos (by omega) (Ev.pos (by omega) ?_)))
    rw [Int.toNat_natCast]
    refine Ev.bind (z44 _ _ (by simp; omega)) (Ev.neg (by rw [dec_f hp]; simp) ?_)
    rw [w64 (by omega)]; exact hb
  · intro i hi hp
    refine Ev.succ ?_
    simp only [impl_different.l0]
    refine Ev.pos (by omega) (Ev.pos (by omega) (Ev.pos (by omega) (Ev.pos (by omega) ?_)))
    rw [Int.toNat_natCast]
    exact Ev.bind (z44 _ _ (by simp; omega)) (Ev.pos (dec_t (Decidable.not_not.1 hp)) (Ev.now _))
theorem z47 (n : Int) (E : List T) (w : List Int) (hE : E.length ≤ 1048576) (hl : w.length ≤ 1048576) : Ev (fun k => impl_WayOk.f k n E w) (dec (OK n E ∧ IsWay n E w)) := by
  simp only [impl_WayOk.f]
  refine Ev.bind (z8 n E hE) ?_
  by_cases ok : OK n E
  · refine Ev.pos (dec_t ok) ?_
    by_cases h0 : (w.length : Int) > 0
    · refine Ev.pos h0 (Ev.bind (ev_walk n E w hE hl) ?_)
      by_cases h1 : (∀ v ∈ w, In n v) ∧ Walk (Has E) w
      · refine Ev.pos (dec_t h1) (Ev.bind (z46 w hl) (Ev.some_ (z0 ?_)))
        exact ⟨fun h => ⟨ok, fun e => by subst e; simp at h0, h1.1, h, h1.2⟩, fun h => h.2.nd⟩
      · exact Ev.neg (by rw [dec_f h1]; simp) (Ev.ff (fun h => h1 ⟨h.2.inn, h.2.walk⟩) (Ev.now _))
    · exact Ev.neg h0 (Ev.ff (fun h => h.2.ne (List.length_eq_zero_iff.1 (by omega))) (Ev.now _))
  · exact Ev.neg (by rw [dec_f ok]; simp) (Ev.ff (fun h => ok h.1) (Ev.now _))
theorem z48 (n : Int) (E : List T) (a b : Int) (w : List Int) (hE : E.length ≤ 1048576) (hw : WF E) (hl : w.length ≤ 1048576) : Ev (fun k => spec_l13Ends.f k n E a b w) (dec (Leads n E a b w)) := by
  simp only [spec_l13Ends.f]
  refine Ev.bind (z45 n E w hE hw hl) ?_
  by_cases h : OK n E ∧ IsWay n E w
  · have h0 : 0 < w.length := List.length_pos_iff.2 h.2.ne
    refine Ev.pos (dec_t h) (Ev.pos (by omega) ?_)
    by_cases ha : rd w 0 = a
    · refine Ev.pos ha ?_
      rw [w64 (by omega)]
      refine Ev.pos (by omega) (Ev.pos (by omega) (Ev.some_ (dec_of ?_)))
      rw [beq_iff_eq]
      exact ⟨fun hb => ⟨h.1, h.2, ha, hb⟩, fun k => k.2.2.2⟩
    · exact Ev.neg ha (Ev.ff (fun k => ha k.2.2.1) (Ev.now _))
  · exact Ev.neg (by rw [dec_f h]; simp) (Ev.ff (fun k => h ⟨k.1, k.2.1⟩) (Ev.now _))
theorem ev_leads (n : Int) (E : List T) (a b : Int) (w : List Int) (hE : E.length ≤ 1048576) (hl : w.length ≤ 1048576) : Ev (fun k => impl_leads.f k n E w a b) (dec (Leads n E a b w)) := by
  simp only [impl_leads.f]
  refine Ev.bind (z47 n E w hE hl) ?_
  by_cases h : OK n E ∧ IsWay n E w
  · have h0 : 0 < w.length := List.length_pos_iff.2 h.2.ne
    refine Ev.pos (dec_t h) (Ev.pos (by omega) ?_)
    by_cases ha : rd w 0 = a
    · refine Ev.pos ha ?_
      rw [w64 (by omega)]
      refine Ev.pos (by omega) (Ev.pos (by omega) (Ev.some_ (dec_of ?_)))
      rw [beq_iff_eq]
      exact ⟨fun hb => ⟨h.1, h.2, ha, hb⟩, fun k => k.2.2.2⟩
    · exact Ev.neg ha (Ev.ff (fun k => ha k.2.2.1) (Ev.now _))
  · exact Ev.neg (by rw [dec_f h]; simp) (Ev.ff (fun k => h ⟨k.1, k.2.1⟩) (Ev.now _))
theorem z49 (W : List (List Int)) (i : Nat) (h : i < W.length) : rd_L2 W (i : Int) = W[i] := by
  simp [rd_L2, List.getD_eq_getElem?_getD, List.getElem?_eq_getElem h]
theorem es_nodup : ∀ {w : List Int}, w.Nodup → (es w).Nodup
  | [], _ => by simp [es]
  | [_], _ => by simp [es]
  | a :: b :: l, h => by
    have h2 := (List.nodup_cons.1 h).2
    rw [es, List.nodup_cons]
    refine ⟨fun hm => ?_, es_nodup h2⟩
    obtain ⟨A, k, x, B, e, ht⟩ := mem_es hm
    have hk : k ∈ b :: l := by rw [e]; simp
    have hx : x ∈ b :: l := by rw [e]; simp
    rcases tie_inj ht with ⟨e1, _⟩ | ⟨_, e1⟩
    · exact (List.nodup_cons.1 h).1 (by rw [← e1]; exact hk)
    · exact (List.nodup_cons.1 h).1 (by rw [← e1]; exact hx)
def FlowOkP (n : Int) (E : List T) (a b : Int) (W : List (List Int)) : Prop := Two2 n E a b ∧ W.length ≤ 8 ∧ (∀ w ∈ W, Leads n E a b w) ∧ (W.flatMap es).Nodup
noncomputable def uses (W : List (List Int)) (t : T) : Nat := (W.filter (fun w => dec (t ∈ es w))).length
theorem z50 {w : List Int} {W : List (List Int)} {t : T} (h : t ∈ es w) : uses (w :: W) t = uses W t + 1 := by
  unfold uses
  rw [List.filter_cons_of_pos (by rw [dec_t h])]
  rfl
theorem z51 {w : List Int} {W : List (List Int)} {t : T} (h : t ∉ es w) : uses (w :: W) t = uses W t := by
  unfold uses
  rw [List.filter_cons_of_neg (by rw [dec_f h]; simp)]
theorem uses_pos {W : List (List Int)} {t : T} : 0 < uses W t ↔ ∃ w ∈ W, t ∈ es w := by
  unfold uses
  rw [List.length_pos_iff_exists_mem]
  constructor
  · rintro ⟨w, hw⟩
    exact ⟨w, (List.mem_filter.1 hw).1, dec_iff.1 (List.mem_filter.1 hw).2⟩
  · rintro ⟨w, hw, ht⟩
    exact ⟨w, List.mem_filter.2 ⟨hw, dec_t ht⟩⟩
theorem z52 : ∀ {W : List (List Int)}, (∀ w ∈ W, w.Nodup) → ((W.flatMap es).Nodup ↔ ∀ t, uses W t ≤ 1)
  | [], _ => by simp [uses]
  | w :: W, h => by
    have ih := z52 (W := W) (fun w hw => h w (by simp [hw]))
    rw [List.flatMap_cons, List.nodup_append]
    constructor
    · rintro ⟨_, h2, h3⟩ t
      by_cases ht : t ∈ es w
      · rw [z50 ht]
        by_cases hu : 0 < uses W t
        · obtain ⟨w', hw', ht'⟩ := uses_pos.1 hu
          exact absurd rfl (h3 t ht t (List.mem_flatMap.2 ⟨w', hw', ht'⟩))
        · omega
      · rw [z51 ht]
        exact ih.1 h2 t
    · intro hu
      refine ⟨es_nodup (h w (by simp)), ih.2 (fun t => ?_), fun t ht t' ht' e => ?_⟩
      · have := hu t
        by_cases ht : t ∈ es w
        · rw [z50 ht] at this; omega
        · rwa [z51 ht] at this
      · subst e
        have := hu t
        rw [z50 ht] at this
        obtain ⟨w', hw', ht'⟩ := List.mem_flatMap.1 ht'
        have := uses_pos.2 ⟨w', hw', ht'⟩
        omega
theorem Leads.es_mem {n : Int} {E : List T} {a b : Int} {w : List Int} (h : Leads n E a b w) {t : T} (ht : t ∈ es w) : t ∈ E := walk_es.1 h.2.1.walk t ht
theorem z53 {n : Int} {E : List T} {a b : Int} {W : List (List Int)} : FlowOkP n E a b W ↔ Two2 n E a b ∧ W.length ≤ 8 ∧ (∀ w ∈ W, Leads n E a b w) ∧ ∀ t ∈ E, uses W t ≤ 1 := by
  unfold FlowOkP
  constructor
  · rintro ⟨h1, h2, h3, h4⟩
    exact ⟨h1, h2, h3, fun t _ => (z52 (fun w hw => (h3 w hw).2.1.nd)).1 h4 t⟩
  · rintro ⟨h1, h2, h3, h4⟩
    refine ⟨h1, h2, h3, (z52 (fun w hw => (h3 w hw).2.1.nd)).2 (fun t => ?_)⟩
    by_cases ht : 0 < uses W t
    · obtain ⟨w, hw, hm⟩ := uses_pos.1 ht
      exact h4 t ((h3 w hw).es_mem hm)
    · omega
theorem z54 (w : List Int) (t : T) (hl : w.length ≤ 1048576) : ∀ (d i : Nat), 1 ≤ i → i + d = w.length → Ev (fun k => spec_l21Uses.l0 k w i t.f0 t.f1) (dec (t ∈ es (w.drop (i - 1))))
  | 0, i, h1, h => by
    refine Ev.succ ?_
    simp only [spec_l21Uses.l0]
    refine Ev.neg (by omega) (Ev.ff (fun hm => ?_) (Ev.now _))
    have : (w.drop (i - 1)).length = 1 := by rw [List.length_drop]; omega
    obtain ⟨x, hx⟩ := List.length_eq_one_iff.1 this
    rw [hx] at hm
    simp [es] at hm
  | d + 1, i, h1, h => by
    obtain ⟨j, rfl⟩ : ∃ j, i = j + 1 := ⟨i - 1, by omega⟩
    have ih := z54 w t hl d (j + 1 + 1) (by omega) (by omega)
    refine Ev.succ ?_
    simp only [spec_l21Uses.l0]
    rw [w64 (x := ((j + 1 : Nat) : Int) - 1) (by omega), show ((j + 1 : Nat) : Int) - 1 = (j : Int) by omega]
    refine Ev.pos (by omega) (Ev.pos (by omega) (Ev.pos (by omega) (Ev.pos (by omega) (Ev.bind0 (l1Tie _ _) ?_))))
    rw [z20 w j (by omega), z20 w (j + 1) (by omega)]
    have e : w.drop (j + 1 - 1) = w[j] :: w[j + 1] :: w.drop (j + 1 + 1) := by
      rw [show j + 1 - 1 = j by omega, List.drop_eq_getElem_cons (by omega : j < w.length), List.drop_eq_getElem_cons (by omega : j + 1 < w.length)]
    rw [e, es]
    by_cases hh : tie w[j] w[j + 1] = t
    · refine Ev.pos ?_ (Ev.tt (by rw [hh]; simp) (Ev.now _))
      rw [hh]; simp
    · refine Ev.neg ?_ ?_
      · intro k
        simp only [Bool.and_eq_true, beq_iff_eq] at k
        exact hh (T.ext k.1 k.2)
      · rw [w64 (by omega), show ((j + 1 : Nat) : Int) + 1 = ((j + 1 + 1 : Nat) : Int) by omega]
        refine Ev.cast ih (z0 ?_)
        rw [show j + 1 + 1 - 1 = j + 1 by omega, List.drop_eq_getElem_cons (by omega : j + 1 < w.length)]
        simp [Ne.symm hh]
theorem z55 (w : List Int) (t : T) (hl : w.length ≤ 1048576) : Ev (fun k => spec_l21Uses.f k w t.f0 t.f1) (dec (t ∈ es w)) := by
  simp only [spec_l21Uses.f]
  by_cases h : w.length = 0
  · obtain rfl := List.length_eq_zero_iff.1 h
    refine Ev.succ ?_
    simp only [spec_l21Uses.l0]
    exact Ev.neg (by simp) (Ev.ff (by simp [es]) (Ev.now _))
  · exact Ev.cast (z54 w t hl (w.length - 1) 1 (by omega) (by omega)) (by simp)
theorem z56 {n : Int} {E : List T} {W : List (List Int)} (hW : W.length ≤ 8) (hr : ∀ w ∈ W, w.length ≤ 1048576) (hE : E.length ≤ 64) (x : Nat) (hx : x < E.length) {r : Bool} (hnext : uses W E[x] ≤ 1 → Ev (fun k => spec_FlowOk.l1 k W ((x + 1 : Nat) : Int) n E) r) (hbad : 1 < uses W E[x] → r = false) :
    ∀ (d j u : Nat), j + d = W.length → u + uses (W.drop j) E[x] = uses W E[x] → Ev (fun k => spec_FlowOk.l2 k W x u j n E) r
  | 0, j, u, h, hu => by
    refine Ev.succ ?_
    simp only [spec_FlowOk.l2]
    rw [List.drop_of_length_le (by omega)] at hu
    simp only [uses, List.filter_nil, List.length_nil, Nat.add_zero] at hu
    refine Ev.neg (by omega) ?_
    by_cases h1 : (u : Int) > 1
    · refine Ev.pos h1 (Ev.some_ (hbad ?_).symm)
      unfold uses; omega
    · refine Ev.neg h1 ?_
      rw [w64 (by omega)]
      exact hnext (by unfold uses; omega)
  | d + 1, j, u, h, hu => by
    have hj : j < W.length := by omega
    have hul : uses W E[x] ≤ W.length := List.length_filter_le _ _
    refine Ev.succ ?_
    simp only [spec_FlowOk.l2]
    rw [z49 W j hj, rd_T_nat E x hx]
    refine Ev.pos (by omega) (Ev.pos (by omega) (Ev.pos (by omega) (Ev.pos (by omega) (Ev.bind (z55 W[j] E[x] (hr _ (List.getElem_mem hj))) ?_))))
    rw [List.drop_eq_getElem_cons hj] at hu
    by_cases ht : E[x] ∈ es W[j]
    · rw [z50 ht] at hu
      refine Ev.pos (dec_t ht) ?_
      rw [w64 (by omega), w64 (by omega)]
      exact z56 hW hr hE x hx hnext hbad d (j + 1) (u + 1) (by omega) (by omega)
    · rw [z51 ht] at hu
      refine Ev.neg (by rw [dec_f ht]; simp) ?_
      rw [w64 (by omega)]
      exact z56 hW hr hE x hx hnext hbad d (j + 1) u (by omega) (by omega)
theorem z57 {n : Int} {E : List T} {W : List (List Int)} (hW : W.length ≤ 8) (hr : ∀ w ∈ W, w.length ≤ 1048576) (hE : E.length ≤ 64) : ∀ (d x : Nat), x + d = E.length → Ev (fun k => spec_FlowOk.l1 k W x n E) (dec (∀ t ∈ E.drop x, uses W t ≤ 1))
  | 0, x, h => by
    refine Ev.succ ?_
    simp only [spec_FlowOk.l1]
    refine Ev.neg (by omega) (Ev.tt (fun t ht => ?_) (Ev.now _))
    rw [List.drop_of_length_le (by omega)] at ht
    simp at ht
  | d + 1, x, h => by
    have hx : x < E.length := by omega
    have ih := z57 (n := n) hW hr hE d (x + 1) (by omega)
    refine Ev.succ ?_
    simp only [spec_FlowOk.l1]
    refine Ev.pos (by omega) (z56 hW hr hE x hx (fun hu => ?_) (fun hu => ?_) W.length 0 0 (by omega) (by simp))
    · refine Ev.cast ih (z0 ?_)
      rw [List.drop_eq_getElem_cons hx, List.forall_mem_cons]
      exact ⟨fun k => ⟨hu, k⟩, fun k => k.2⟩
    · refine dec_f (fun k => ?_)
      have := k E[x] (by rw [List.drop_eq_getElem_cons hx]; exact List.mem_cons_self)
      omega
theorem z58 {n : Int} {E : List T} {a b : Int} {W : List (List Int)} (hW : W.length ≤ 8) (hr : ∀ w ∈ W, w.length ≤ 1048576) (hE : E.length ≤ 64) (hw : WF E) : ∀ (d x : Nat), x + d = W.length →
    Ev (fun k => spec_FlowOk.l0 k a b W x n E) (dec ((∀ w ∈ W.drop x, Leads n E a b w) ∧ ∀ t ∈ E, uses W t ≤ 1))
  | 0, x, h => by
    refine Ev.succ ?_
    simp only [spec_FlowOk.l0]
    refine Ev.neg (by omega) (Ev.cast (z57 hW hr hE E.length 0 (by omega)) (z0 ?_))
    rw [List.drop_of_length_le (by omega : W.length ≤ x)]
    simp
  | d + 1, x, h => by
    have hx : x < W.length := by omega
    have ih := z58 (n := n) (E := E) (a := a) (b := b) hW hr hE hw d (x + 1) (by omega)
    refine Ev.succ ?_
    simp only [spec_FlowOk.l0]
    rw [z49 W x hx]
    refine Ev.pos (by omega) (Ev.pos (by omega) (Ev.bind (z48 n E a b W[x] (by omega) hw (hr _ (List.getElem_mem hx))) ?_))
    by_cases hl : Leads n E a b W[x]
    · refine Ev.pos (dec_t hl) ?_
      rw [w64 (by omega)]
      refine Ev.cast ih (z0 ?_)
      rw [List.drop_eq_getElem_cons hx, List.forall_mem_cons]
      exact ⟨fun k => ⟨⟨hl, k.1⟩, k.2⟩, fun k => ⟨k.1.2, k.2⟩⟩
    · refine Ev.neg (by rw [dec_f hl]; simp) (Ev.ff (fun k => hl (k.1 _ ?_)) (Ev.now _))
      rw [List.drop_eq_getElem_cons hx]; exact List.mem_cons_self
theorem z59 (n : Int) (E : List T) (a b : Int) (W : List (List Int)) (hE : E.length ≤ 1048576) (hw : WF E) (hW : W.length ≤ 1048576) (hr : ∀ w ∈ W, w.length ≤ 1048576) : Ev (fun k => spec_FlowOk.f k n E a b W) (dec (FlowOkP n E a b W)) := by
  simp only [spec_FlowOk.f]
  have bad : ¬ FlowOkP n E a b W → Ev (fun k => spec_FlowOk.j0 k a b W true n E) (dec (FlowOkP n E a b W)) := fun hb => by
    refine Ev.succ ?_
    simp only [spec_FlowOk.j0]
    exact Ev.pos (by trivial) (Ev.ff hb (Ev.now _))
  refine Ev.bind (z10 n E a hE hw) ?_
  by_cases ha : OK n E ∧ In n a
  · refine Ev.pos (dec_t ha) (Ev.bind (z10 n E b hE hw) ?_)
    by_cases hb : OK n E ∧ In n b
    · refine Ev.pos (dec_t hb) ?_
      by_cases hab : a = b
      · exact Ev.pos hab (bad (fun k => k.1.2.2.2 hab))
      · refine Ev.neg hab ?_
        by_cases h8 : (W.length : Int) > 8
        · rw [decide_eq_true h8]
          exact bad (fun k => by have := k.2.1; omega)
        · rw [decide_eq_false h8]
          refine Ev.succ ?_
          simp only [spec_FlowOk.j0]
          refine Ev.neg (by simp) (Ev.cast (z58 (by omega) hr ha.1.length hw W.length 0 (by omega)) (z0 ?_))
          rw [z53, List.drop_zero]
          exact ⟨fun k => ⟨⟨ha.1, ha.2, hb.2, hab⟩, by omega, k.1, k.2⟩, fun k => ⟨k.2.2.1, k.2.2.2⟩⟩
    · exact Ev.neg (by rw [dec_f hb]; simp) (bad (fun k => hb ⟨k.1.1, k.1.2.2.1⟩))
  · exact Ev.neg (by rw [dec_f ha]; simp) (bad (fun k => ha ⟨k.1.1, k.1.2.1⟩))
def Holds (s : Int) (L : List T) : Prop := ∀ a b, mpIn a b → mpBit s a b = dec ((⟨a, b⟩ : T) ∈ L)
theorem z60 : Holds 0 [] := fun a b _ => by rw [mpBit_zero, dec_f (by simp)]
theorem Holds.add {s : Int} {L : List T} (h : Holds s L) {t : T} (ht : mpIn t.f0 t.f1) : Holds (mpSet s t.f0 t.f1) (L ++ [t]) := fun a b hab => by
  rw [mpBit_set ht hab, h a b hab]
  refine dec_of ?_
  rw [Bool.or_eq_true, dec_iff, decide_eq_true_eq, List.mem_append, List.mem_singleton]
  constructor
  · rintro (h1 | ⟨rfl, rfl⟩)
    · exact Or.inl h1
    · exact Or.inr rfl
  · rintro (h1 | h1)
    · exact Or.inl h1
    · exact Or.inr ⟨by rw [← h1], by rw [← h1]⟩
theorem mpIn_tie {n : Int} {E : List T} (h : OK n E) {a b : Int} (ha : In n a) (hb : In n b) : mpIn (tie a b).f0 (tie a b).f1 := by
  have := h.n8
  unfold In at ha hb
  unfold mpIn tie
  split <;> simp <;> omega
theorem z61 {n : Int} {E : List T} (hO : OK n E) {a b : Int} {W : List (List Int)} {w : List Int} (hin : ∀ v ∈ w, In n v) (hl : w.length ≤ 1048576) (x : Nat) (hx : x < 8) {r : Bool} :
    ∀ (d i : Nat) (s : Int) (L : List T), 1 ≤ i → i + d = w.length → Holds s L →
      (¬ (L ++ es (w.drop (i - 1))).Nodup → L.Nodup → r = false) → L.Nodup →
      (∀ s', Holds s' (L ++ es (w.drop (i - 1))) → (L ++ es (w.drop (i - 1))).Nodup → Ev (fun k => impl_FlowOk.l0 k a b W W.length ((x + 1 : Nat) : Int) n E s') r) →
      Ev (fun k => impl_FlowOk.l1 k a b w i W W.length x n E s) r
  | 0, i, s, L, h1, h, hs, _, hL, hnext => by
    refine Ev.succ ?_
    simp only [impl_FlowOk.l1]
    have e : es (w.drop (i - 1)) = [] := by
      have : (w.drop (i - 1)).length = 1 := by rw [List.length_drop]; omega
      obtain ⟨y, hy⟩ := List.length_eq_one_iff.1 this
      rw [hy]; rfl
    rw [e, List.append_nil] at hnext
    refine Ev.neg (by omega) ?_
    rw [w64 (by omega), show (x : Int) + 1 = ((x + 1 : Nat) : Int) by omega]
    exact hnext s hs hL
  | d + 1, i, s, L, h1, h, hs, hbad, hL, hnext => by
    obtain ⟨j, rfl⟩ : ∃ j, i = j + 1 := ⟨i - 1, by omega⟩
    have e : w.drop (j + 1 - 1) = w[j] :: w[j + 1] :: w.drop (j + 1 + 1) := by
      rw [show j + 1 - 1 = j by omega, List.drop_eq_getElem_cons (by omega : j < w.length), List.drop_eq_getElem_cons (by omega : j + 1 < w.length)]
    have e2 : es (w.drop (j + 1 - 1)) = tie w[j] w[j + 1] :: es (w.drop (j + 1 + 1 - 1)) := by
      rw [e, es, show j + 1 + 1 - 1 = j + 1 by omega, List.drop_eq_getElem_cons (by omega : j + 1 < w.length)]
    rw [e2] at hbad hnext
    have hm := mpIn_tie hO (hin w[j] (List.getElem_mem _)) (hin w[j + 1] (List.getElem_mem _))
    refine Ev.succ ?_
    simp only [impl_FlowOk.l1]
    rw [w64 (x := ((j + 1 : Nat) : Int) - 1) (by omega), show ((j + 1 : Nat) : Int) - 1 = (j : Int) by omega]
    refine Ev.pos (by omega) (Ev.pos (by omega) (Ev.pos (by omega) (Ev.pos (by omega) (Ev.bind0 (z42 _ _) ?_))))
    rw [z20 w j (by omega), z20 w (j + 1) (by omega)]
    have hh : impl_mapHas.f s (tie w[j] w[j + 1]).f0 (tie w[j] w[j + 1]).f1 = some (dec (tie w[j] w[j + 1] ∈ L), s) := by
      unfold impl_mapHas.f
      rw [if_pos hm, hs _ _ hm]
    refine Ev.bind0 hh ?_
    by_cases ht : tie w[j] w[j + 1] ∈ L
    · refine Ev.pos (dec_t ht) (Ev.some_ (hbad (fun k => ?_) hL).symm)
      rw [List.nodup_append] at k
      exact k.2.2 _ ht _ (by simp) rfl
    · refine Ev.neg (by rw [dec_f ht]; simp) (Ev.bind0 (show impl_mapAdd.f s (tie w[j] w[j + 1]).f0 (tie w[j] w[j + 1]).f1 = some _ from by unfold impl_mapAdd.f; rw [if_pos hm]) ?_)
      rw [w64 (by omega), show ((j + 1 : Nat) : Int) + 1 = ((j + 1 + 1 : Nat) : Int) by omega]
      refine z61 hO hin hl x hx d (j + 1 + 1) _ (L ++ [tie w[j] w[j + 1]]) (by omega) (by omega) (hs.add hm) (fun k _ => hbad (fun k2 => k ?_) hL) ?_ (fun s' h3 h4 => hnext s' ?_ ?_)
      · simpa using k2
      · rw [List.nodup_append]
        refine ⟨hL, by simp, fun y hy z hz e3 => ?_⟩
        rw [List.mem_singleton] at hz
        subst hz; subst e3
        exact ht hy
      · simpa using h3
      · simpa using h4
theorem z62 {n : Int} {E : List T} (hO : OK n E) {a b : Int} (W : List (List Int)) (hr : ∀ w ∈ W, w.length ≤ 1048576) (h8 : W.length ≤ 8) :
    ∀ (d x : Nat) (s : Int) (L : List T), x + d = W.length → Holds s L → L.Nodup →
      Ev (fun k => impl_FlowOk.l0 k a b W W.length x n E s) (dec ((∀ w ∈ W.drop x, Leads n E a b w) ∧ (L ++ (W.drop x).flatMap es).Nodup))
  | 0, x, s, L, h, _, hL => by
    refine Ev.succ ?_
    simp only [impl_FlowOk.l0]
    rw [List.drop_of_length_le (by omega)]
    exact Ev.neg (by omega) (Ev.tt (by simpa using hL) (Ev.now _))
  | d + 1, x, s, L, h, hs, hL => by
    have hx : x < W.length := by omega
    refine Ev.succ ?_
    simp only [impl_FlowOk.l0]
    rw [z49 W x hx, List.drop_eq_getElem_cons hx]
    have hl := hr _ (List.getElem_mem hx)
    refine Ev.pos (by omega) (Ev.pos (by omega) (Ev.pos (by omega) (Ev.bind (ev_leads n E a b W[x] (by have := hO.length; omega) hl) ?_)))
    by_cases hw : Leads n E a b W[x]
    · refine Ev.pos (dec_t hw) ?_
      have hp := hw.pos
      have ih := fun s' => z62 hO W hr h8 d (x + 1) s' (L ++ es W[x]) (by omega) (a := a) (b := b)
      refine z61 hO hw.2.1.inn hl x (by omega) (W[x].length - 1) 1 s L (by omega) (by omega) hs (fun k _ => dec_f (fun k2 => k ?_)) hL (fun s' h3 h4 => ?_)
      · have := k2.2
        rw [List.flatMap_cons, ← List.append_assoc, List.nodup_append] at this
        simpa using this.1
      · simp only [Nat.sub_self, List.drop_zero] at h3 h4
        refine Ev.cast (ih s' h3 h4) (z0 ?_)
        rw [List.flatMap_cons, List.append_assoc, List.forall_mem_cons]
        exact ⟨fun k => ⟨⟨hw, k.1⟩, k.2⟩, fun k => ⟨k.1.2, k.2⟩⟩
    · exact Ev.neg (by rw [dec_f hw]; simp) (Ev.ff (fun k => hw (k.1 _ List.mem_cons_self)) (Ev.now _))
theorem z63 (n : Int) (E : List T) (a b : Int) (W : List (List Int)) (hE : E.length ≤ 1048576) (hr : ∀ w ∈ W, w.length ≤ 1048576) : Ev (fun k => impl_FlowOk.f k n E a b W) (dec (FlowOkP n E a b W)) := by
  simp only [impl_FlowOk.f]
  have bad : ¬ FlowOkP n E a b W → Ev (fun k => impl_FlowOk.j0 k a b W true n E) (dec (FlowOkP n E a b W)) := fun hb => by
    refine Ev.succ ?_
    simp only [impl_FlowOk.j0]
    exact Ev.pos (by trivial) (Ev.ff hb (Ev.now _))
  refine Ev.bind (z39 n E a b hE) ?_
  by_cases h2 : Two2 n E a b
  · refine Ev.pos (dec_t h2) ?_
    by_cases h8 : (W.length : Int) > 8
    · rw [decide_eq_true h8]
      exact bad (fun k => by have := k.2.1; omega)
    · rw [decide_eq_false h8]
      refine Ev.succ ?_
      simp only [impl_FlowOk.j0]
      refine Ev.neg (by simp) (Ev.bind0 (show impl_mapNew.f = some 0 from rfl) (Ev.cast (z62 h2.1 W hr (by omega) W.length 0 0 [] (by omega) z60 List.nodup_nil) (z0 ?_)))
      rw [List.drop_zero, List.nil_append]
      exact ⟨fun k => ⟨h2, by omega, k.1, k.2⟩, fun k => ⟨k.2.2.1, k.2.2.2⟩⟩
  · exact Ev.neg (by rw [dec_f h2]; simp) (bad (fun k => h2 k.1))
theorem rd_head {w : List Int} (h : w ≠ []) : w.head? = some (rd w 0) := by
  cases w with
  | nil => exact absurd rfl h
  | cons a r => rfl
theorem rd_last {w : List Int} (h : w ≠ []) : w.getLast? = some (rd w ((w.length : Int) - 1)) := by
  have hp : 0 < w.length := List.length_pos_iff.2 h
  rw [show ((w.length : Int) - 1) = ((w.length - 1 : Nat) : Int) by omega, z20 w (w.length - 1) (by omega), List.getLast?_eq_getElem?, List.getElem?_eq_getElem (by omega)]
theorem Leads.path {n : Int} {E : List T} {a b : Int} {w : List Int} (h : Leads n E a b w) : Path E a b w := by
  obtain ⟨_, ⟨h0, _, h2, h3⟩, h4, h5⟩ := h
  exact ⟨h2, h3, by rw [rd_head h0, h4], by rw [rd_last h0, h5]⟩
def sm (n : Int) (f : Int → Int) : Int := ((ks n).map f).sum
theorem suml_add (f g : Int → Int) : ∀ l : List Int, (l.map (fun x => f x + g x)).sum = (l.map f).sum + (l.map g).sum
  | [] => rfl
  | a :: l => by simp only [List.map_cons, List.sum_cons, suml_add f g l]; omega
theorem suml_le {f g : Int → Int} : ∀ l : List Int, (∀ x ∈ l, f x ≤ g x) → (l.map f).sum ≤ (l.map g).sum
  | [], _ => Int.le_refl _
  | a :: l, h => by
    have := suml_le l (fun x hx => h x (List.mem_cons_of_mem _ hx))
    have := h a List.mem_cons_self
    simp only [List.map_cons, List.sum_cons]; omega
theorem z64 : ∀ l : List Int, (l.map (fun _ => (0 : Int))).sum = 0
  | [] => rfl
  | a :: l => by simp only [List.map_cons, List.sum_cons, z64 l]; rfl
theorem z65 (p c : Int) : ∀ l : List Int, l.Nodup → (l.map (fun x => if x = p then c else 0)).sum = if p ∈ l then c else 0
  | [], _ => by simp
  | a :: l, h => by
    have h := List.nodup_cons.1 h
    simp only [List.map_cons, List.sum_cons, z65 p c l h.2]
    by_cases e : a = p
    · subst e; rw [if_pos rfl, if_neg h.1, if_pos List.mem_cons_self]; omega
    · rw [if_neg e]
      by_cases k : p ∈ l
      · rw [if_pos k, if_pos (List.mem_cons_of_mem _ k)]; omega
      · rw [if_neg k, if_neg (fun m => (List.mem_cons.1 m).elim (fun m => e m.symm) k)]; omega
theorem sm_congr {n : Int} {f g : Int → Int} (h : ∀ x, In n x → f x = g x) : sm n f = sm n g := by
  unfold sm; rw [List.map_congr_left (fun x hx => h x (mem_ks.1 hx))]
theorem sm_add (n : Int) (f g : Int → Int) : sm n (fun x => f x + g x) = sm n f + sm n g := suml_add f g _
theorem sm_le {n : Int} {f g : Int → Int} (h : ∀ x, In n x → f x ≤ g x) : sm n f ≤ sm n g := suml_le _ (fun x hx => h x (mem_ks.1 hx))
theorem sm_zero (n : Int) : sm n (fun _ => 0) = 0 := z64 _
theorem sm_point {n p : Int} (h : In n p) (c : Int) : sm n (fun x => if x = p then c else 0) = c := by
  unfold sm
  rw [z65 p c _ (ks_nodup n), if_pos (mem_ks.2 h)]
def cs (n : Int) (R : Int → Int → Int) (S : Int → Bool) : Int := sm n (fun u => sm n (fun v => if S u = true ∧ S v = false then R u v else 0))
theorem cs_add (n : Int) (R Q : Int → Int → Int) (S : Int → Bool) : cs n (fun u v => R u v + Q u v) S = cs n R S + cs n Q S := by
  unfold cs
  rw [← sm_add]
  refine sm_congr (fun u _ => ?_)
  rw [← sm_add]
  refine sm_congr (fun v _ => ?_)
  by_cases h : S u = true ∧ S v = false
  · simp only [if_pos h]
  · simp only [if_neg h]; rfl
theorem cs_congr {n : Int} {R Q : Int → Int → Int} {S : Int → Bool} (h : ∀ u v, In n u → In n v → S u = true → S v = false → R u v = Q u v) : cs n R S = cs n Q S := by
  unfold cs
  refine sm_congr (fun u hu => sm_congr (fun v hv => ?_))
  by_cases k : S u = true ∧ S v = false
  · rw [if_pos k, if_pos k, h u v hu hv k.1 k.2]
  · rw [if_neg k, if_neg k]
theorem cs_le {n : Int} {R Q : Int → Int → Int} {S : Int → Bool} (h : ∀ u v, In n u → In n v → S u = true → S v = false → R u v ≤ Q u v) : cs n R S ≤ cs n Q S := by
  unfold cs
  refine sm_le (fun u hu => sm_le (fun v hv => ?_))
  by_cases k : S u = true ∧ S v = false
  · rw [if_pos k, if_pos k]; exact h u v hu hv k.1 k.2
  · rw [if_neg k, if_neg k]; exact Int.le_refl _
theorem cs_zero {n : Int} {R : Int → Int → Int} {S : Int → Bool} (h : ∀ u v, In n u → In n v → S u = true → S v = false → R u v = 0) : cs n R S = 0 := by
  rw [cs_congr (Q := fun _ _ => 0) h]
  unfold cs
  simp only [ite_self, sm_zero]
theorem z66 {n : Int} {R : Int → Int → Int} {S : Int → Bool} (h : ∀ u v, In n u → In n v → S u = true → S v = false → 0 ≤ R u v) : 0 ≤ cs n R S := by
  have := cs_le (R := fun _ _ => 0) h
  rwa [cs_zero (fun _ _ _ _ _ _ => rfl)] at this
theorem cs_point {n p q : Int} (hp : In n p) (hq : In n q) (c : Int) (S : Int → Bool) : cs n (fun u v => if u = p ∧ v = q then c else 0) S = if S p = true ∧ S q = false then c else 0 := by
  unfold cs
  rw [sm_congr (g := fun u => if u = p then (if S p = true ∧ S q = false then c else 0) else 0), sm_point hp]
  intro u _
  by_cases e : u = p
  · subst e
    rw [if_pos rfl, sm_congr (g := fun v => if v = q then (if S u = true ∧ S q = false then c else 0) else 0), sm_point hq]
    intro v _
    by_cases e : v = q
    · subst e; simp
    · simp [e]
  · rw [if_neg e, sm_congr (g := fun _ => 0), sm_zero]
    intro v _
    simp [e]
theorem z67 {n p q : Int} (hp : In n p) (hq : In n q) {R : Int → Int → Int} {S : Int → Bool} (h : ∀ u v, In n u → In n v → S u = true → S v = false → 0 ≤ R u v) (h1 : S p = true) (h2 : S q = false) : R p q ≤ cs n R S := by
  have := cs_le (n := n) (S := S) (R := fun u v => if u = p ∧ v = q then R p q else 0) (Q := R) (fun u v hu hv hs ht => by
    by_cases e : u = p ∧ v = q
    · rw [if_pos e, e.1, e.2]; exact Int.le_refl _
    · rw [if_neg e]; exact h u v hu hv hs ht)
  rw [cs_point hp hq, if_pos ⟨h1, h2⟩] at this
  exact this
def bi (x : Bool) : Int := if x then 1 else 0
theorem cs_push {n p q : Int} (hp : In n p) (hq : In n q) {R Q : Int → Int → Int} (h : ∀ u v, In n u → In n v → Q u v = R u v + (if u = p ∧ v = q then -1 else 0) + (if u = q ∧ v = p then 1 else 0)) (S : Int → Bool) : cs n Q S = cs n R S + bi (S q) - bi (S p) := by
  rw [cs_congr (fun u v hu hv _ _ => h u v hu hv), cs_add, cs_add, cs_point hp hq, cs_point hq hp]
  unfold bi
  cases S p <;> cases S q <;> simp <;> omega
def cap (E : List T) (u v : Int) : Int := if tie u v ∈ E then 1 else 0
theorem cap_comm (E : List T) (u v : Int) : cap E u v = cap E v u := by unfold cap; rw [tie_comm]
theorem z68 (E : List T) (u v : Int) : 0 ≤ cap E u v := by unfold cap; split <;> omega
theorem cap_le (E : List T) (u v : Int) : cap E u v ≤ 1 := by unfold cap; split <;> omega
def cross (n : Int) (E : List T) (S : Int → Bool) : Int := cs n (cap E) S
theorem z69 (n : Int) (E : List T) (S : Int → Bool) : 0 ≤ cross n E S := z66 (fun u v _ _ _ _ => z68 E u v)
theorem z70 {n : Int} {E : List T} (h : OK n E) {t : T} (ht : t ∈ E) (S : Int → Bool) : cross n (less E (· = t)) S = cross n E S - (if S t.f0 = S t.f1 then 0 else 1) := by
  have hb := h.tie t ht
  have h0 : In n t.f0 := ⟨by omega, by omega⟩
  have h1 : In n t.f1 := ⟨by omega, by omega⟩
  unfold cross
  rw [cs_congr (Q := fun u v => cap E u v + ((if u = t.f0 ∧ v = t.f1 then -1 else 0) + (if u = t.f1 ∧ v = t.f0 then -1 else 0))), cs_add, cs_add, cs_point h0 h1, cs_point h1 h0]
  · cases S t.f0 <;> cases S t.f1 <;> simp <;> omega
  · intro u v _ _ _ _
    unfold cap
    by_cases e : tie u v = t
    · rw [if_neg (c := tie u v ∈ less E (· = t)) (fun m => (mem_less.1 m).2 e), if_pos (c := tie u v ∈ E) (by rw [e]; exact ht)]
      rcases (z24 (by omega)).1 e with ⟨rfl, rfl⟩ | ⟨rfl, rfl⟩
      · rw [if_pos ⟨rfl, rfl⟩, if_neg (by omega)]; rfl
      · rw [if_neg (by omega), if_pos ⟨rfl, rfl⟩]; rfl
    · rw [if_neg (c := u = t.f0 ∧ v = t.f1) (fun k => e ((z24 (by omega)).2 (Or.inl k))), if_neg (c := u = t.f1 ∧ v = t.f0) (fun k => e ((z24 (by omega)).2 (Or.inr k)))]
      by_cases m : tie u v ∈ E
      · rw [if_pos (c := tie u v ∈ E) m, if_pos (c := tie u v ∈ less E (· = t)) (mem_less.2 ⟨m, e⟩)]; rfl
      · rw [if_neg (c := tie u v ∈ E) m, if_neg (c := tie u v ∈ less E (· = t)) (fun k => m (mem_less.1 k).1)]; rfl
structure IsFlow (n : Int) (E : List T) (a b c : Int) : Prop where
  some_ : ∃ S : Int → Bool, S a = true ∧ S b = false ∧ cross n E S = c
  least : ∀ S : Int → Bool, S a = true → S b = false → c ≤ cross n E S
theorem z71 (P : Nat → Prop) : ∀ m : Nat, P m → ∃ k, P k ∧ ∀ j, P j → k ≤ j := by
  intro m
  induction m using Nat.strongRecOn with
  | ind m ih =>
    intro hm
    by_cases h : ∃ j, P j ∧ j < m
    · obtain ⟨j, hj, hl⟩ := h; exact ih j hl hj
    · exact ⟨m, hm, fun j hj => Nat.le_of_not_lt (fun hl => h ⟨j, hj, hl⟩)⟩
theorem z72 (n : Int) (E : List T) {a b : Int} (hab : a ≠ b) : ∃ c, IsFlow n E a b c := by
  obtain ⟨k, ⟨S, h1, h2, h3⟩, hl⟩ := z71 (fun k => ∃ S : Int → Bool, S a = true ∧ S b = false ∧ cross n E S = (k : Int)) (cross n E (fun x => x == a)).toNat ⟨fun x => x == a, by simp, by simp; exact fun e => hab e.symm, by have := z69 n E (fun x => x == a); omega⟩
  refine ⟨k, ⟨S, h1, h2, h3⟩, fun S' h1' h2' => ?_⟩
  have := z69 n E S'
  have := hl (cross n E S').toNat ⟨S', h1', h2', by omega⟩
  omega
theorem IsFlow.unique {n : Int} {E : List T} {a b c d : Int} (h : IsFlow n E a b c) (k : IsFlow n E a b d) : c = d := by
  obtain ⟨S, h1, h2, h3⟩ := h.some_
  obtain ⟨S', h1', h2', h3'⟩ := k.some_
  have := h.least S' h1' h2'
  have := k.least S h1 h2
  omega
noncomputable def flow (n : Int) (E : List T) (a b : Int) : Int := Classical.epsilon (IsFlow n E a b)
theorem flow_is (n : Int) (E : List T) {a b : Int} (hab : a ≠ b) : IsFlow n E a b (flow n E a b) := Classical.epsilon_spec (z72 n E hab)
theorem IsFlow.flow {n : Int} {E : List T} {a b c : Int} (h : IsFlow n E a b c) : Th.flow n E a b = c := (Classical.epsilon_spec (p := IsFlow n E a b) ⟨c, h⟩ : IsFlow n E a b (Th.flow n E a b)).unique h
theorem z73 (n : Int) (E : List T) {a b : Int} (hab : a ≠ b) : 0 ≤ flow n E a b := by
  obtain ⟨S, _, _, h⟩ := (flow_is n E hab).some_
  rw [← h]; exact z69 n E S
theorem cross_le {n : Int} (h0 : 0 ≤ n) (h8 : n ≤ 8) (E : List T) (S : Int → Bool) : cross n E S ≤ 64 := by
  have hs : ∀ c : Int, 0 ≤ c → ∀ l : List Int, l.length ≤ 8 → (l.map (fun _ => c)).sum ≤ 8 * c := by
    intro c hc l hl
    have : ∀ l : List Int, (l.map (fun _ => c)).sum = (l.length : Int) * c := by
      intro l
      induction l with
      | nil => simp
      | cons a l ih => simp only [List.map_cons, List.sum_cons, ih, List.length_cons]; rw [Int.natCast_add, Int.add_mul]; omega
    rw [this]
    exact Int.mul_le_mul_of_nonneg_right (by omega) hc
  have hk : (ks n).length ≤ 8 := by rw [z12]; omega
  unfold cross cs
  refine Int.le_trans (sm_le (g := fun _ => 8) (fun u _ => ?_)) (hs 8 (by omega) _ hk)
  refine Int.le_trans (sm_le (g := fun _ => 1) (fun v _ => ?_)) (hs 1 (by omega) _ hk)
  split
  · exact cap_le E u v
  · omega
theorem flow_le {n : Int} (h0 : 0 ≤ n) (h8 : n ≤ 8) (E : List T) {a b : Int} (hab : a ≠ b) : flow n E a b ≤ 64 := by
  obtain ⟨S, _, _, h⟩ := (flow_is n E hab).some_
  rw [← h]; exact cross_le h0 h8 E S
theorem z74 {n : Int} {E : List T} (h : OK n E) {t : T} (ht : t ∈ E) {a b : Int} (hab : a ≠ b) : flow n E a b - 1 ≤ flow n (less E (· = t)) a b ∧ flow n (less E (· = t)) a b ≤ flow n E a b := by
  obtain ⟨S, h1, h2, h3⟩ := (flow_is n E hab).some_
  obtain ⟨S', h1', h2', h3'⟩ := (flow_is n (less E (· = t)) hab).some_
  have e := z70 h ht S
  have e' := z70 h ht S'
  have l := (flow_is n E hab).least S' h1' h2'
  have l' := (flow_is n (less E (· = t)) hab).least S h1 h2
  constructor
  · split at e' <;> omega
  · split at e <;> omega
theorem z75 {n : Int} {E : List T} (h : OK n E) {a b : Int} (_ha : In n a) (hab : a ≠ b) : flow n E a b = 0 ↔ ¬ Conn E a b := by
  constructor
  · intro e hc
    obtain ⟨S, h1, h2, h3⟩ := (flow_is n E hab).some_
    rw [e] at h3
    have : S b = true := hc.keeps (P := fun x => S x = true) (fun u v m hu => by
      cases hv : S v with
      | true => rfl
      | false =>
        have hi := h.has m
        have := z67 (n := n) (R := cap E) (S := S) hi.1 hi.2.1 (fun u v _ _ _ _ => z68 E u v) hu hv
        unfold cross at h3
        rw [h3] at this
        unfold cap at this
        rw [if_pos (show tie u v ∈ E from m)] at this
        omega) h1
    rw [this] at h2
    exact absurd h2 (by simp)
  · intro hc
    refine IsFlow.flow ⟨⟨fun x => dec (Conn E a x), dec_t (.refl a), dec_f hc, ?_⟩, fun S _ _ => z69 n E S⟩
    refine cs_zero (fun u v _ _ hu hv => ?_)
    unfold cap
    refine if_neg (fun m => ?_)
    have : Conn E a v := .step (dec_iff.1 hu) m
    simp only [dec_t this] at hv
    exact absurd hv (by simp)
theorem z76 (S : Int → Bool) : ∀ {w : List Int} {a b : Int}, w.head? = some a → w.getLast? = some b → S a = true → S b = false → ∃ t ∈ es w, S t.f0 ≠ S t.f1
  | [], _, _, h, _, _, _ => by simp at h
  | [x], a, b, h, k, ha, hb => by
    simp at h k
    subst h; subst k
    rw [ha] at hb
    exact absurd hb (by decide)
  | x :: y :: l, a, b, h, k, ha, hb => by
    have hx : x = a := by simpa using h
    subst hx
    by_cases hy : S y = true
    · have k' : (y :: l).getLast? = some b := by rwa [List.getLast?_cons_cons] at k
      obtain ⟨t, ht, hs⟩ := z76 S (w := y :: l) rfl k' hy hb
      exact ⟨t, by rw [es]; exact List.mem_cons_of_mem _ ht, hs⟩
    · refine ⟨tie x y, by rw [es]; exact List.mem_cons_self, ?_⟩
      have hy' := Bool.eq_false_iff.2 hy
      unfold tie
      split
      · show S x ≠ S y
        rw [ha, hy']; decide
      · show S y ≠ S x
        rw [ha, hy']; decide
theorem z77 {n : Int} {a b : Int} {S : Int → Bool} (ha : S a = true) (hb : S b = false) : ∀ (W : List (List Int)) (E : List T), OK n E → (∀ w ∈ W, Path E a b w) → (W.flatMap es).Nodup → (W.length : Int) ≤ cross n E S
  | [], E, _, _, _ => z69 n E S
  | w :: W, E, h, hW, hn => by
    have p := hW w (by simp)
    obtain ⟨t, ht, hs⟩ := z76 S p.hd p.lst ha hb
    have htE := z38 p ht
    rw [List.flatMap_cons, List.nodup_append] at hn
    have ih := z77 ha hb W (less E (· = t)) (h.less _) (fun w' hw' => ?_) hn.2.1
    · rw [z70 h htE, if_neg hs] at ih
      rw [List.length_cons]
      omega
    · have p' := hW w' (by simp [hw'])
      refine ⟨p'.nd, walk_es.2 (fun t' ht' => ?_), p'.hd, p'.lst⟩
      refine mem_less.2 ⟨z38 p' ht', fun e => ?_⟩
      exact hn.2.2 t ht t' (List.mem_flatMap.2 ⟨w', hw', ht'⟩) e.symm
theorem FlowOkP.le {n : Int} {E : List T} {a b : Int} {W : List (List Int)} (h : FlowOkP n E a b W) : (W.length : Int) ≤ flow n E a b := by
  obtain ⟨h1, _, h3, h4⟩ := h
  obtain ⟨S, ha, hb, e⟩ := (flow_is n E h1.2.2.2).some_
  rw [← e]
  exact z77 ha hb W E h1.1 (fun w hw => (h3 w hw).path) h4
theorem l1Copy (n : Int) (E : List T) (hE : E.length ≤ 1048576) : spec_l1Copy.f n E = some (n, E) := by
  unfold spec_l1Copy.f
  simp only [Option.bind_some, List.nil_append, List.length_nil]
  rw [if_pos (by omega)]
theorem z78 {x y : Int} (hx : 0 ≤ x ∧ x < 4611686018427387904) (hy : 0 ≤ y ∧ y < 4611686018427387904) : 0 ≤ Go.bits .xor .i64 x y := by
  have hlt : x.toNat ^^^ y.toNat < 2 ^ 62 := Nat.xor_lt_two_pow (by omega) (by omega)
  have e : (BitVec.ofInt 64 x ^^^ BitVec.ofInt 64 y).toNat = x.toNat ^^^ y.toNat := by
    rw [BitVec.toNat_xor, BitVec.toNat_ofInt, BitVec.toNat_ofInt]
    congr 1 <;> omega
  unfold Go.bits
  show 0 ≤ Go.IntKind.wrap .i64 ((BitVec.ofInt 64 x ^^^ BitVec.ofInt 64 y).toNat : Int)
  rw [e]
  rw [i64_w, w64 (by omega)]
  omega
def Bytes (s : List Int) : Prop := s.length ≤ 2000 ∧ ∀ x ∈ s, 0 ≤ x ∧ x ≤ 255
theorem Bytes.rd {s : List Int} (h : Bytes s) {i : Int} (h0 : 0 ≤ i) (h1 : i < s.length) : 0 ≤ rd s i ∧ rd s i ≤ 255 := by
  rw [rd_i s i h0 h1]
  exact h.2 _ (List.getElem_mem _)
theorem ev_pick {s : List Int} (h : Bytes s) {p : Int} (hp : 0 ≤ p ∧ p ≤ 1000000) (m : Int) (hm : m ≤ 1000000000) : ∃ v, Ev (fun k => spec_l6Rd_pick.f k s p m) (v, p + 1) ∧ (1 ≤ m → 0 ≤ v ∧ v < m) ∧ 0 ≤ v ∧ (v < m ∨ v = 0) := by
  by_cases hb : m < 1 ∨ s.length = 0
  · refine ⟨0, ?_, fun _ => by omega, by omega, Or.inr rfl⟩
    simp only [spec_l6Rd_pick.f]
    rw [w64 (x := p + 1) (by omega)]
    have j : Ev (fun k => spec_l6Rd_pick.j0 k m true s (p + 1)) (0, p + 1) := by
      refine Ev.succ ?_
      simp only [spec_l6Rd_pick.j0]
      exact Ev.pos trivial (Ev.now _)
    by_cases h1 : m < 1
    · exact Ev.pos h1 j
    · refine Ev.neg h1 ?_
      have e : ((s.length : Int) == 0) = true := by rw [beq_iff_eq]; omega
      rw [e]; exact j
  · have h1 : ¬ m < 1 := fun k => hb (Or.inl k)
    have h2 : ¬ s.length = 0 := fun k => hb (Or.inr k)
    have e : ((s.length : Int) == 0) = false := by rw [beq_eq_false_iff_ne]; omega
    have hl := h.1
    by_cases hk : p < s.length
    · have hr := h.rd hp.1 hk
      have hv := Int.tmod_nonneg m hr.1
      have hv' := Int.tmod_lt_of_pos (rd s p) (show 0 < m by omega)
      refine ⟨Int.tmod (rd s p) m, ?_, fun _ => ⟨hv, hv'⟩, hv, Or.inl hv'⟩
      simp only [spec_l6Rd_pick.f]
      rw [w64 (x := p + 1) (by omega), e]
      refine Ev.neg h1 (Ev.succ ?_)
      simp only [spec_l6Rd_pick.j0]
      rw [show p + 1 - 1 = p by omega, w64 (x := p) (by omega), w64 (x := rd s p) (by omega)]
      exact Ev.neg (by simp) (Ev.pos hk (Ev.pos hp.1 (Ev.neg (by omega) (Ev.now _))))
    · have hL : (0 : Int) < s.length := by omega
      have a0 := Int.tmod_nonneg (s.length : Int) hp.1
      have a1 := Int.tmod_lt_of_pos p hL
      have b0 := Int.tmod_nonneg (s.length : Int) (show 0 ≤ p * 7 + 3 by omega)
      have b1 := Int.tmod_lt_of_pos (p * 7 + 3) hL
      have ra := h.rd a0 a1
      have rb := h.rd b0 b1
      have d0 := Int.tdiv_nonneg hp.1 (show 0 ≤ (s.length : Int) by omega)
      have d1 : Int.tdiv p s.length ≤ p := Int.tdiv_le_self _ hp.1
      generalize hA : rd s (Int.tmod p s.length) = A at ra
      generalize hB : rd s (Int.tmod (p * 7 + 3) s.length) = B at rb
      generalize hD : Int.tdiv p s.length = D at d0 d1
      have q0 := Int.tdiv_nonneg (show 0 ≤ A * 131 + B * 1117 + p * 29 + D * 53 by omega) (show (0 : Int) ≤ 64 by omega)
      have q1 : Int.tdiv (A * 131 + B * 1117 + p * 29 + D * 53) 64 ≤ A * 131 + B * 1117 + p * 29 + D * 53 := Int.tdiv_le_self _ (by omega)
      have hx := z78 (x := A * 131 + B * 1117 + p * 29 + D * 53) (y := Int.tdiv (A * 131 + B * 1117 + p * 29 + D * 53) 64) (by omega) (by omega)
      have hv := Int.tmod_nonneg m hx
      have hv' := Int.tmod_lt_of_pos (Go.bits .xor .i64 (A * 131 + B * 1117 + p * 29 + D * 53) (Int.tdiv (A * 131 + B * 1117 + p * 29 + D * 53) 64)) (show 0 < m by omega)
      refine ⟨_, ?_, fun _ => ⟨hv, hv'⟩, hv, Or.inl hv'⟩
      simp only [spec_l6Rd_pick.f]
      rw [w64 (x := p + 1) (by omega), e]
      refine Ev.neg h1 (Ev.succ ?_)
      simp only [spec_l6Rd_pick.j0]
      rw [show p + 1 - 1 = p by omega, w64 (x := p) (by omega), w64 (x := p * 7) (by omega), w64 (x := p * 7 + 3) (by omega)]
      refine Ev.neg (by simp) (Ev.neg hk (Ev.neg (by omega) (Ev.pos a0 (Ev.pos a1 (Ev.pos b0 (Ev.pos b1 (Ev.neg (by omega) ?_)))))))
      rw [hA, hB, hD, w64 (x := A) (by omega), w64 (x := A * 131) (by omega), w64 (x := B) (by omega), w64 (x := B * 1117) (by omega), w64 (x := A * 131 + B * 1117) (by omega), w64 (x := p * 29) (by omega), w64 (x := A * 131 + B * 1117 + p * 29) (by omega),
        w64 (x := D) (by omega), w64 (x := D * 53) (by omega), w64 (x := A * 131 + B * 1117 + p * 29 + D * 53) (by omega), w64 (x := Int.tdiv (A * 131 + B * 1117 + p * 29 + D * 53) 64) (by omega)]
      exact Ev.now _
theorem l6Open (s : List Int) (h : s.length ≤ maxLen ∧ ∀ x ∈ s, (Lit.int .u8 x).wf = true) : ∃ s', spec_l6Open.f s = some (s', 0) ∧ Bytes s' := by
  unfold spec_l6Open.f
  by_cases h1 : (s.length : Int) > 2000
  · rw [if_pos h1, if_pos (by omega)]
    exact ⟨_, rfl, by rw [List.length_take]; omega, fun x hx => wf_u8 (h.2 x (List.mem_of_mem_take hx))⟩
  · rw [if_neg h1]
    exact ⟨_, rfl, by omega, fun x hx => wf_u8 (h.2 x hx)⟩
def insT (t : T) : List T → List T
  | [] => [t]
  | s :: r => if lt t s then t :: s :: r else s :: insT t r
theorem mem_insT {t u : T} : ∀ {E : List T}, u ∈ insT t E ↔ u = t ∨ u ∈ E
  | [] => by simp [insT]
  | s :: r => by
    unfold insT
    split
    · simp
    · simp only [List.mem_cons, mem_insT (E := r)]
      constructor
      · rintro (h | h | h)
        · exact Or.inr (Or.inl h)
        · exact Or.inl h
        · exact Or.inr (Or.inr h)
      · rintro (h | h | h)
        · exact Or.inr (Or.inl h)
        · exact Or.inl h
        · exact Or.inr (Or.inr h)
theorem asc_insT {t : T} : ∀ {E : List T}, Asc E → t ∉ E → Asc (insT t E)
  | [], _, _ => by simp [insT, Asc]
  | s :: r, h, hn => by
    have hs := List.pairwise_cons.1 h
    unfold insT
    split
    · next hl =>
      refine List.pairwise_cons.2 ⟨fun u hu => ?_, h⟩
      rcases List.mem_cons.1 hu with rfl | hu
      · exact hl
      · exact lt_trans hl (hs.1 u hu)
    · next hl =>
      refine List.pairwise_cons.2 ⟨fun u hu => ?_, asc_insT hs.2 (fun k => hn (List.mem_cons_of_mem _ k))⟩
      rcases mem_insT.1 hu with rfl | hu
      · rcases lt_tri s u with k | k | k
        · exact k
        · exact absurd (by rw [k]; exact List.mem_cons_self) hn
        · exact absurd k hl
      · exact hs.1 u hu
theorem OK.ins {n : Int} {E : List T} (h : OK n E) {a b : Int} (ha : In n a) (hb : In n b) (hab : a ≠ b) (hn : ¬ Has E a b) : OK n (insT (Th.tie a b) E) := by
  refine ⟨h.n0, h.n8, fun t ht => ?_, asc_insT h.asc hn⟩
  rcases mem_insT.1 ht with rfl | ht
  · unfold In at ha hb
    unfold Th.tie
    split <;> dsimp only <;> omega
  · exact h.tie t ht
theorem z79 {n : Int} {E : List T} (t : T) (hE : E.length ≤ 1048576) : ∀ (d i : Nat) (out : List T), i + d = E.length → out.length ≤ i + 1 → Ev (fun k => spec_NetAdd.l0 k true i n E n out t.f0 t.f1) (n, out ++ E.drop i, true)
  | 0, i, out, h, hl => by
    refine Ev.succ ?_
    simp only [spec_NetAdd.l0]
    refine Ev.neg (by omega) (Ev.pos trivial (Ev.some_ ?_))
    rw [List.drop_of_length_le (by omega)]; simp
  | d + 1, i, out, h, hl => by
    have hi : i < E.length := by omega
    refine Ev.succ ?_
    simp only [spec_NetAdd.l0, rd_T_nat E i hi]
    refine Ev.pos (by omega) (Ev.pos trivial (Ev.pos (by omega) (Ev.pos (by omega) ?_)))
    rw [w64 (by omega), List.drop_eq_getElem_cons hi]
    refine Ev.cast (z79 (n := n) t hE d (i + 1) (out ++ [E[i]]) (by omega) (by simp only [List.length_append, List.length_singleton]; omega)) ?_
    simp
theorem z80 {n : Int} {E : List T} (t : T) (hE : E.length ≤ 1048576) : ∀ (d i : Nat) (out : List T), i + d = E.length → out.length ≤ i → Ev (fun k => spec_NetAdd.l0 k false i n E n out t.f0 t.f1) (n, out ++ insT t (E.drop i), true)
  | 0, i, out, h, hl => by
    refine Ev.succ ?_
    simp only [spec_NetAdd.l0]
    refine Ev.neg (by omega) (Ev.neg (by simp) (Ev.pos (by omega) (Ev.some_ ?_)))
    rw [List.drop_of_length_le (by omega)]; rfl
  | d + 1, i, out, h, hl => by
    have hi : i < E.length := by omega
    refine Ev.succ ?_
    simp only [spec_NetAdd.l0, rd_T_nat E i hi]
    refine Ev.pos (by omega) (Ev.neg (by simp) (Ev.pos (by omega) (Ev.bind0 (l1Less t E[i]) ?_)))
    rw [w64 (by omega), List.drop_eq_getElem_cons hi]
    unfold insT
    by_cases hlt : lt t E[i]
    · rw [if_pos hlt]
      refine Ev.pos (decide_eq_true hlt) (Ev.pos (by omega) (Ev.bind0 rfl (Ev.pos (by simp only [List.length_append, List.length_singleton]; omega) ?_)))
      refine Ev.cast (z79 (n := n) t hE d (i + 1) (out ++ [t] ++ [E[i]]) (by omega) (by simp only [List.length_append, List.length_singleton]; omega)) ?_
      simp
    · rw [if_neg hlt]
      refine Ev.neg (by simp [hlt]) (Ev.pos (by omega) ?_)
      refine Ev.cast (z80 (n := n) t hE d (i + 1) (out ++ [E[i]]) (by omega) (by simp only [List.length_append, List.length_singleton]; omega)) ?_
      simp
def MayAdd (n : Int) (E : List T) (a b : Int) : Prop := OK n E ∧ In n a ∧ In n b ∧ a ≠ b ∧ ¬ Has E a b
theorem z81 {n : Int} {E : List T} {a b : Int} (h : MayAdd n E a b) : Ev (fun k => spec_NetAdd.f k n E a b) (n, insT (tie a b) E, true) := by
  have hl := h.1.length
  simp only [spec_NetAdd.f]
  refine Ev.bind (z10 n E a (by omega) h.1.wf) (Ev.pos (dec_t ⟨h.1, h.2.1⟩) (Ev.bind (z10 n E b (by omega) h.1.wf) (Ev.pos (dec_t ⟨h.1, h.2.2.1⟩) (Ev.neg h.2.2.2.1 (Ev.bind (z11 n E a b (by omega) h.1.wf) ?_)))))
  rw [dec_f (fun k => h.2.2.2.2 k.2)]
  refine Ev.succ ?_
  simp only [spec_NetAdd.j0]
  refine Ev.neg (by simp) (Ev.bind0 (l1Tie a b) ?_)
  exact z80 (tie a b) (by omega) E.length 0 [] (by omega) (by simp)
theorem z82 {n : Int} {E : List T} {a b : Int} (hE : E.length ≤ 1048576) (hw : WF E) (h : ¬ MayAdd n E a b) : Ev (fun k => spec_NetAdd.f k n E a b) (0, [], false) := by
  have no : Ev (fun k => spec_NetAdd.j0 k a b true n E) (0, [], false) := by
    refine Ev.succ ?_
    simp only [spec_NetAdd.j0]
    exact Ev.pos trivial (Ev.now _)
  simp only [spec_NetAdd.f]
  refine Ev.bind (z10 n E a hE hw) ?_
  by_cases ha : OK n E ∧ In n a
  · refine Ev.pos (dec_t ha) (Ev.bind (z10 n E b hE hw) ?_)
    by_cases hb : OK n E ∧ In n b
    · refine Ev.pos (dec_t hb) ?_
      by_cases e : a = b
      · exact Ev.pos e no
      · refine Ev.neg e (Ev.bind (z11 n E a b hE hw) ?_)
        by_cases hh : Has E a b
        · rw [dec_t ⟨ha.1, hh⟩]; exact no
        · exact absurd ⟨ha.1, ha.2, hb.2, e, hh⟩ h
    · exact Ev.neg (by rw [dec_f hb]; simp) no
  · exact Ev.neg (by rw [dec_f ha]; simp) no
theorem z83 {n : Int} {E : List T} (h : OK n E) (a b : Int) : ∃ n' E' ok, Ev (fun k => spec_NetAdd.f k n E a b) (n', E', ok) ∧ OK n' E' := by
  have hl := h.length
  by_cases hm : MayAdd n E a b
  · exact ⟨_, _, _, z81 hm, h.ins hm.2.1 hm.2.2.1 hm.2.2.2.1 hm.2.2.2.2⟩
  · exact ⟨_, _, _, z82 (by omega) h.wf hm, OK.nil (by omega) (by omega)⟩
theorem z84 {s : List Int} (h : Bytes s) : ∀ (d : Nat) (i p n : Int) (E : List T), i ≤ d → d ≤ 20 → 0 ≤ p → p + 2 * d ≤ 101000 → OK n E → ∃ n' E' p', Ev (fun k => spec_l71Net.l2 k i s p n E) (n', E', p') ∧ OK n' E' ∧ 0 ≤ p' ∧ p' ≤ p + 2 * d
  | d, i, p, n, E, hi, hd, hp, hq, ho => by
    have stop : ∃ n' E' p', Ev (fun k => spec_l71Net.j4 k i false s p n E) (n', E', p') ∧ OK n' E' ∧ 0 ≤ p' ∧ p' ≤ p + 2 * d := by
      refine ⟨n, E, p, Ev.succ ?_, ho, hp, by omega⟩
      simp only [spec_l71Net.j4]
      exact Ev.neg (by simp) (Ev.now _)
    by_cases h1 : i > 0
    · by_cases h2 : n > 1
      · cases d with
        | zero => omega
        | succ d =>
          have h8 := ho.n8
          obtain ⟨a, ha, _⟩ := ev_pick h (p := p) (by omega) n (by omega)
          obtain ⟨b, hb, _⟩ := ev_pick h (p := p + 1) (by omega) n (by omega)
          obtain ⟨n1, E1, ok, hadd, hok⟩ := z83 ho a b
          by_cases hk : ok = true
          · obtain ⟨n2, E2, p2, hev, ho2, hp2, hq2⟩ := z84 h d (i - 1) (p + 1 + 1) n1 E1 (by omega) (by omega) (by omega) (by omega) hok
            refine ⟨n2, E2, p2, Ev.succ ?_, ho2, hp2, by omega⟩
            simp only [spec_l71Net.l2]
            refine Ev.pos h1 (Ev.succ ?_)
            simp only [spec_l71Net.j4]
            refine Ev.pos (decide_eq_true h2) (Ev.bind ha (Ev.bind hb (Ev.bind hadd (Ev.pos hk ?_))))
            rw [w64 (by omega)]
            exact hev
          · obtain ⟨n2, E2, p2, hev, ho2, hp2, hq2⟩ := z84 h d (i - 1) (p + 1 + 1) n E (by omega) (by omega) (by omega) (by omega) ho
            refine ⟨n2, E2, p2, Ev.succ ?_, ho2, hp2, by omega⟩
            simp only [spec_l71Net.l2]
            refine Ev.pos h1 (Ev.succ ?_)
            simp only [spec_l71Net.j4]
            refine Ev.pos (decide_eq_true h2) (Ev.bind ha (Ev.bind hb (Ev.bind hadd (Ev.neg hk ?_))))
            rw [w64 (by omega)]
            exact hev
      · obtain ⟨n2, E2, p2, hev, r⟩ := stop
        refine ⟨n2, E2, p2, Ev.succ ?_, r⟩
        simp only [spec_l71Net.l2]
        refine Ev.pos h1 ?_
        rw [decide_eq_false h2]
        exact hev
    · obtain ⟨n2, E2, p2, hev, r⟩ := stop
      refine ⟨n2, E2, p2, Ev.succ ?_, r⟩
      simp only [spec_l71Net.l2]
      exact Ev.neg h1 hev
theorem z85 {s : List Int} (h : Bytes s) (p n : Int) (E : List T) (hp : 0 ≤ p) (hq : p ≤ 100900) (ho : OK n E) : ∃ n' E' p', Ev (fun k => spec_l71Net.j2 k s p n E) (n', E', p') ∧ OK n' E' ∧ 0 ≤ p' ∧ p' ≤ p + 30 := by
  obtain ⟨a, ha, ha', _⟩ := ev_pick h (p := p) (by omega) 13 (by omega)
  have := ha' (by omega)
  obtain ⟨n2, E2, p2, hev, ho2, hp2, hq2⟩ := z84 h 13 a (p + 1) n E (by omega) (by omega) (by omega) (by omega) ho
  refine ⟨n2, E2, p2, Ev.succ ?_, ho2, hp2, by omega⟩
  simp only [spec_l71Net.j2]
  exact Ev.bind ha hev
theorem z86 {s : List Int} (h : Bytes s) : ∀ (d : Nat) (i p n : Int) (E : List T), i + d = 8 → 0 ≤ i → 0 ≤ p → p + d ≤ 100900 → OK n E → ∃ n' E' p', Ev (fun k => spec_l71Net.l0 k i s p n E) (n', E', p') ∧ OK n' E' ∧ 0 ≤ p' ∧ p' ≤ p + d + 30
  | d, i, p, n, E, hi, h0, hp, hq, ho => by
    by_cases h1 : i < n
    · cases d with
      | zero => have := ho.n8; omega
      | succ d =>
        obtain ⟨a, ha, _⟩ := ev_pick h (p := p) (by omega) i (by omega)
        obtain ⟨n1, E1, ok, hadd, hok⟩ := z83 ho i a
        obtain ⟨n2, E2, p2, hev, ho2, hp2, hq2⟩ := z86 h d (i + 1) (p + 1) n1 E1 (by omega) (by omega) (by omega) (by omega) hok
        refine ⟨n2, E2, p2, Ev.succ ?_, ho2, hp2, by omega⟩
        simp only [spec_l71Net.l0]
        refine Ev.pos h1 (Ev.bind ha (Ev.bind hadd ?_))
        rw [w64 (by omega)]
        exact hev
    · obtain ⟨n2, E2, p2, hev, ho2, hp2, hq2⟩ := z85 h p n E hp (by omega) ho
      refine ⟨n2, E2, p2, Ev.succ ?_, ho2, hp2, by omega⟩
      simp only [spec_l71Net.l0]
      exact Ev.neg h1 hev
theorem z87 {s : List Int} (h : Bytes s) (p : Int) (hp : 0 ≤ p) (hq : p ≤ 100900) : ∀ (d : Nat) (i n : Int) (E : List T), i + d = 8 → 0 ≤ i → OK n E → ∃ n' E' p', Ev (fun k => spec_l71Net.l1 k i s p n E) (n', E', p') ∧ OK n' E' ∧ 0 ≤ p' ∧ p' ≤ p + 30
  | d, i, n, E, hi, h0, ho => by
    obtain ⟨n2, E2, p2, hev, r⟩ := z85 h p n E hp (by omega) ho
    by_cases h1 : i < n
    · by_cases h2 : n > 2
      · cases d with
        | zero => have := ho.n8; omega
        | succ d =>
          obtain ⟨n1, E1, ok, hadd, hok⟩ := z83 ho i (Int.tmod (i + 1) n)
          obtain ⟨n2, E2, p2, hev, r⟩ := z87 h p hp hq d (i + 1) n1 E1 (by omega) (by omega) hok
          refine ⟨n2, E2, p2, Ev.succ ?_, r⟩
          simp only [spec_l71Net.l1]
          rw [w64 (x := i + 1) (by omega)]
          exact Ev.pos h1 (Ev.pos h2 (Ev.neg (by omega) (Ev.bind hadd hev)))
      · refine ⟨n2, E2, p2, Ev.succ ?_, r⟩
        simp only [spec_l71Net.l1]
        exact Ev.pos h1 (Ev.neg h2 hev)
    · refine ⟨n2, E2, p2, Ev.succ ?_, r⟩
      simp only [spec_l71Net.l1]
      exact Ev.neg h1 hev
theorem z88 {s : List Int} (h : Bytes s) (p : Int) (hp : 0 ≤ p) (hq : p ≤ 100800) : ∃ n E p', Ev (fun k => spec_l71Net.f k s p) (n, E, p') ∧ OK n E ∧ 0 ≤ p' ∧ p' ≤ p + 50 := by
  obtain ⟨a, ha, ha', _⟩ := ev_pick h (p := p) (by omega) 8 (by omega)
  have := ha' (by omega)
  obtain ⟨b, hb, hb', _⟩ := ev_pick h (p := p + 1) (by omega) 6 (by omega)
  have hn : OK (1 + a) ([] : List T) := OK.nil (by omega) (by omega)
  simp only [spec_l71Net.f]
  by_cases h0 : b = 0
  · obtain ⟨n2, E2, p2, hev, ho2, hp2, hq2⟩ := z86 h 7 1 (p + 1 + 1) (1 + a) [] (by omega) (by omega) (by omega) (by omega) hn
    refine ⟨n2, E2, p2, Ev.bind ha (Ev.bind hb (Ev.pos h0 ?_)), ho2, hp2, by omega⟩
    rw [w64 (by omega)]
    exact hev
  · by_cases h1 : b = 1
    · obtain ⟨n2, E2, p2, hev, ho2, hp2, hq2⟩ := z87 h (p + 1 + 1) (by omega) (by omega) 8 0 (1 + a) [] (by omega) (by omega) hn
      refine ⟨n2, E2, p2, Ev.bind ha (Ev.bind hb (Ev.neg h0 (Ev.pos h1 ?_))), ho2, hp2, by omega⟩
      rw [w64 (by omega)]
      exact hev
    · obtain ⟨n2, E2, p2, hev, ho2, hp2, hq2⟩ := z85 h (p + 1 + 1) (1 + a) [] (by omega) (by omega) hn
      refine ⟨n2, E2, p2, Ev.bind ha (Ev.bind hb (Ev.neg h0 (Ev.neg h1 ?_))), ho2, hp2, by omega⟩
      rw [w64 (by omega)]
      exact hev
structure Small (n : Int) (E : List T) : Prop where
  n : -1 ≤ n ∧ n ≤ 9
  len : E.length ≤ 70
  tie : ∀ t ∈ E, (-9 ≤ t.f0 ∧ t.f0 ≤ 9) ∧ (-9 ≤ t.f1 ∧ t.f1 ≤ 9)
theorem Small.wf {n : Int} {E : List T} (h : Small n E) : WF E := fun t ht => by have := h.tie t ht; omega
theorem Small.le {n : Int} {E : List T} (h : Small n E) : E.length ≤ 1048576 := by have := h.len; omega
theorem OK.small {n : Int} {E : List T} (h : OK n E) : Small n E := by
  refine ⟨?_, by have := h.length; omega, fun t ht => ?_⟩
  · have := h.n0; have := h.n8; omega
  · have := h.tie t ht; have := h.n8; omega
theorem z89 {s : List Int} (h : Bytes s) (p : Int) (hp : 0 ≤ p) (hq : p ≤ 100800) {n : Int} {E : List T} (ho : OK n E) : ∃ n' E' p', Ev (fun k => spec_l71Spoil.f k s p n E) (n', E', p') ∧ Small n' E' ∧ 0 ≤ p' ∧ p' ≤ p + 3 := by
  have hl := ho.length
  have h8 := ho.n8
  have h0 := ho.n0
  have sm := ho.small
  have add : ∀ t : T, ((-9 ≤ t.f0 ∧ t.f0 ≤ 9) ∧ (-9 ≤ t.f1 ∧ t.f1 ≤ 9)) → Small n (E ++ [t]) := fun t ht => ⟨sm.n, by simp only [List.length_append, List.length_singleton]; omega, fun u hu => by
    rcases List.mem_append.1 hu with m | m
    · exact sm.tie u m
    · rw [List.mem_singleton] at m; subst m; exact ht⟩
  obtain ⟨a, ha, ha', _⟩ := ev_pick h (p := p) (by omega) 6 (by omega)
  have := ha' (by omega)
  simp only [spec_l71Spoil.f]
  by_cases e0 : a = 0
  · obtain ⟨b, hb, hb', _⟩ := ev_pick h (p := p + 1) (by omega) 5 (by omega)
    have := hb' (by omega)
    have hv : -1 ≤ rd [(-1 : Int), 0, 1, 8, 9] b ∧ rd [(-1 : Int), 0, 1, 8, 9] b ≤ 9 := by
      obtain rfl | rfl | rfl | rfl | rfl : b = 0 ∨ b = 1 ∨ b = 2 ∨ b = 3 ∨ b = 4 := by omega
      all_goals decide
    refine ⟨_, _, _, Ev.bind0 (l1Copy n E (by omega)) (Ev.bind ha (Ev.pos e0 (Ev.bind0 rfl (Ev.bind hb (Ev.pos (by omega) (Ev.pos (by simp; omega) (Ev.now _))))))), ⟨hv, sm.len, sm.tie⟩, by omega, by omega⟩
  · by_cases e1 : a = 1
    · obtain ⟨b, hb, hb', _⟩ := ev_pick h (p := p + 1) (by omega) 3 (by omega)
      obtain ⟨c, hc, hc', _⟩ := ev_pick h (p := p + 1 + 1) (by omega) 3 (by omega)
      have := hb' (by omega)
      have := hc' (by omega)
      exact ⟨_, _, _, Ev.bind0 (l1Copy n E (by omega)) (Ev.bind ha (Ev.neg e0 (Ev.pos e1 (Ev.bind hb (Ev.bind hc (Ev.pos (by dsimp only; omega) (Ev.now _))))))), add ⟨b, c⟩ (by dsimp only; omega), by omega, by omega⟩
    · by_cases e2 : a = 2
      · refine ⟨_, _, _, Ev.bind0 (l1Copy n E (by omega)) (Ev.bind ha (Ev.neg e0 (Ev.neg e1 (Ev.pos e2 (Ev.pos (by dsimp only; omega) (Ev.now _)))))), add ⟨wrap64 (n - 1), n⟩ ?_, by omega, by omega⟩
        rw [w64 (by omega)]
        dsimp only; omega
      · by_cases e3 : a = 3
        · by_cases hE : (E.length : Int) > 0
          · obtain ⟨b, hb, hb', _⟩ := ev_pick h (p := p + 1) (by omega) (E.length : Int) (by omega)
            have hbb := hb' (by omega)
            refine ⟨_, _, _, Ev.bind0 (l1Copy n E (by omega)) (Ev.bind ha (Ev.neg e0 (Ev.neg e1 (Ev.neg e2 (Ev.pos e3 (Ev.pos hE (Ev.bind hb (Ev.pos hbb.1 (Ev.pos hbb.2 (Ev.now _)))))))))), ⟨sm.n, by rw [List.length_set]; exact sm.len, fun u hu => ?_⟩, by omega, by omega⟩
            rcases List.mem_or_eq_of_mem_set hu with m | rfl
            · exact sm.tie u m
            · have hbn : b.toNat < E.length := by omega
              have e : (rd_T52 E b) = E[b.toNat] := by
                have := rd_T_nat E b.toNat hbn
                rw [show ((b.toNat : Nat) : Int) = b by omega] at this
                exact this
              have := sm.tie _ (List.getElem_mem hbn)
              dsimp only
              rw [e]
              omega
          · exact ⟨_, _, _, Ev.bind0 (l1Copy n E (by omega)) (Ev.bind ha (Ev.neg e0 (Ev.neg e1 (Ev.neg e2 (Ev.pos e3 (Ev.neg hE (Ev.now _))))))), sm, by omega, by omega⟩
        · by_cases e4 : a = 4
          · by_cases hE : (E.length : Int) > 1
            · refine ⟨_, _, _, Ev.bind0 (l1Copy n E (by omega)) (Ev.bind ha (Ev.neg e0 (Ev.neg e1 (Ev.neg e2 (Ev.neg e3 (Ev.pos e4 (Ev.pos hE (Ev.pos (by dsimp only; omega) (Ev.pos (by dsimp only; omega) (Ev.now _)))))))))), add _ ?_, by omega, by omega⟩
              have e : rd_T52 E 0 = E[0] := rd_T_nat E 0 (by omega)
              rw [e]
              have := sm.tie _ (List.getElem_mem (show 0 < E.length by omega))
              dsimp only; omega
            · exact ⟨_, _, _, Ev.bind0 (l1Copy n E (by omega)) (Ev.bind ha (Ev.neg e0 (Ev.neg e1 (Ev.neg e2 (Ev.neg e3 (Ev.pos e4 (Ev.neg hE (Ev.now _)))))))), sm, by omega, by omega⟩
          · refine ⟨_, _, _, Ev.bind0 (l1Copy n E (by omega)) (Ev.bind ha (Ev.neg e0 (Ev.neg e1 (Ev.neg e2 (Ev.neg e3 (Ev.neg e4 (Ev.bind0 rfl (Ev.pos (by simp only [List.length_singleton]; omega) (Ev.now _))))))))), ⟨sm.n, by simp only [List.singleton_append, List.length_cons]; omega, fun u hu => ?_⟩, by omega, by omega⟩
            rcases List.mem_append.1 hu with m | m
            · rw [List.mem_singleton] at m; subst m; dsimp only; omega
            · exact sm.tie u m
theorem z90 {s : List Int} (h : Bytes s) (p : Int) (hp : 0 ≤ p) (hq : p ≤ 100700) : ∃ n E p', Ev (fun k => spec_l71Any.f k s p) (n, E, p') ∧ Small n E ∧ 0 ≤ p' ∧ p' ≤ p + 60 := by
  obtain ⟨n, E, p1, hev, ho, hp1, hq1⟩ := z88 h p hp (by omega)
  obtain ⟨a, ha, _⟩ := ev_pick h (p := p1) (by omega) 12 (by omega)
  simp only [spec_l71Any.f]
  by_cases e : a = 0
  · obtain ⟨n2, E2, p2, h2, hs, hp2, hq2⟩ := z89 h (p1 + 1) (by omega) (by omega) ho
    exact ⟨_, _, _, Ev.bind hev (Ev.bind ha (Ev.pos e (Ev.bind h2 (Ev.now _)))), hs, hp2, by dsimp only; omega⟩
  · exact ⟨_, _, _, Ev.bind hev (Ev.bind ha (Ev.neg e (Ev.now _))), ho.small, by omega, by omega⟩
theorem z91 {s : List Int} (h : Bytes s) (p : Int) (hp : 0 ≤ p) (hq : p ≤ 100900) {n : Int} {E : List T} (hs : Small n E) : ∃ v p', Ev (fun k => spec_l71Knot.f k s p n E) (v, p') ∧ (-9 ≤ v ∧ v ≤ 9) ∧ 0 ≤ p' ∧ p' ≤ p + 2 := by
  have hn := hs.n
  have odd : ∀ p, 0 ≤ p → p ≤ 100950 → ∃ v, Ev (fun k => spec_l71Knot.j0 k true s p n E) (v, p + 1) ∧ (-9 ≤ v ∧ v ≤ 9) := fun p hp hq => by
    obtain ⟨b, hb, hb', _⟩ := ev_pick h (p := p) (by omega) 3 (by omega)
    have := hb' (by omega)
    have hv : -9 ≤ rd [(-1 : Int), n, 3] b ∧ rd [(-1 : Int), n, 3] b ≤ 9 := by
      obtain rfl | rfl | rfl : b = 0 ∨ b = 1 ∨ b = 2 := by omega
      · show (-9 : Int) ≤ -1 ∧ (-1 : Int) ≤ 9; omega
      · show -9 ≤ n ∧ n ≤ 9; omega
      · show (-9 : Int) ≤ 3 ∧ (3 : Int) ≤ 9; omega
    refine ⟨_, Ev.succ ?_, hv⟩
    simp only [spec_l71Knot.j0]
    exact Ev.pos trivial (Ev.bind0 rfl (Ev.bind hb (Ev.pos (by omega) (Ev.pos (by simp; omega) (Ev.now _)))))
  simp only [spec_l71Knot.f]
  by_cases h1 : n < 1
  · obtain ⟨v, hv, r⟩ := odd p hp (by omega)
    exact ⟨v, p + 1, Ev.pos h1 hv, r, by omega, by omega⟩
  · obtain ⟨a, ha, _⟩ := ev_pick h (p := p) (by omega) 24 (by omega)
    by_cases e : a = 0
    · obtain ⟨v, hv, r⟩ := odd (p + 1) (by omega) (by omega)
      refine ⟨v, p + 1 + 1, Ev.neg h1 (Ev.bind ha ?_), r, by omega, by omega⟩
      subst e
      exact hv
    · obtain ⟨b, hb, hb', _⟩ := ev_pick h (p := p + 1) (by omega) n (by omega)
      have := hb' (by omega)
      refine ⟨b, p + 1 + 1, Ev.neg h1 (Ev.bind ha ?_), by omega, by omega, by omega⟩
      dsimp only
      rw [beq_eq_false_iff_ne.2 e]
      refine Ev.succ ?_
      simp only [spec_l71Knot.j0]
      exact Ev.neg (by simp) (Ev.bind hb (Ev.now _))
theorem z92 {s : List Int} (h : Bytes s) (p : Int) (hp : 0 ≤ p) (hq : p ≤ 100700) : ∃ n E a b p', Ev (fun k => spec_l71Pair.f k s p) (n, E, a, b, p') ∧ Small n E ∧ (-9 ≤ a ∧ a ≤ 9) ∧ (-9 ≤ b ∧ b ≤ 9) ∧ 0 ≤ p' ∧ p' ≤ p + 70 := by
  obtain ⟨n, E, p1, hev, hs, hp1, hq1⟩ := z90 h p hp (by omega)
  obtain ⟨a, p2, ha, har, hp2, hq2⟩ := z91 h p1 hp1 (by omega) hs
  obtain ⟨b, p3, hb, hbr, hp3, hq3⟩ := z91 h p2 hp2 (by omega) hs
  have hn := hs.n
  simp only [spec_l71Pair.f]
  by_cases e : a = b
  · by_cases h1 : n > 1
    · obtain ⟨c, hc, _⟩ := ev_pick h (p := p3) (by omega) 8 (by omega)
      by_cases h2 : c > 0
      · refine ⟨n, E, a, _, p3 + 1, Ev.bind hev (Ev.bind ha (Ev.bind hb (Ev.pos e (Ev.pos h1 (Ev.bind hc (Ev.pos h2 (Ev.neg (by dsimp only; omega) (Ev.now _)))))))), hs, har, ?_, by omega, by omega⟩
        rw [w64 (by omega)]
        have := Int.tmod_lt_of_pos (a + 1) (show 0 < n by omega)
        have := Int.lt_tmod_of_pos (a + 1) (show 0 < n by omega)
        dsimp only; omega
      · exact ⟨n, E, a, b, p3 + 1, Ev.bind hev (Ev.bind ha (Ev.bind hb (Ev.pos e (Ev.pos h1 (Ev.bind hc (Ev.neg h2 (Ev.now _))))))), hs, har, hbr, by omega, by omega⟩
    · exact ⟨n, E, a, b, p3, Ev.bind hev (Ev.bind ha (Ev.bind hb (Ev.pos e (Ev.neg h1 (Ev.now _))))), hs, har, hbr, by omega, by omega⟩
  · exact ⟨n, E, a, b, p3, Ev.bind hev (Ev.bind ha (Ev.bind hb (Ev.neg e (Ev.now _)))), hs, har, hbr, by omega, by omega⟩
end Go.Proofs.Ytffflhmblelegaa.Th
namespace Go.Proofs.Ytffflhmblelegaa.Th
open Go.RowKit Go.Proofs.YtffflhmblelegaaW.PrintWords Go.Proofs.YtffflhmblelegaaW.PrintLast Go.Proofs.YtffflhmblelegaaW.PrintMore Go.Proofs.Ytffflhmblelegaa.F Classical
noncomputable def waysR (n : Int) (E : List T) (b : Int) : Nat → List Int → List (List Int)
  | 0, w => if rd w ((w.length : Int) - 1) = b then [w] else []
  | d + 1, w => if rd w ((w.length : Int) - 1) = b then [w] else (ks n).flatMap (fun k => if Has E (rd w ((w.length : Int) - 1)) k ∧ k ∉ w then waysR n E b d (w ++ [k]) else [])
theorem z93 {α β : Type} (f : α → List β) (m : Nat) : ∀ l : List α, (∀ x ∈ l, (f x).length ≤ m) → (l.flatMap f).length ≤ l.length * m
  | [], _ => by simp
  | x :: l, h => by
    rw [List.flatMap_cons, List.length_append, List.length_cons, Nat.succ_mul]
    have := h x (by simp)
    have := z93 f m l (fun y hy => h y (List.mem_cons_of_mem _ hy))
    omega
theorem z94 {n : Int} (hn : n ≤ 8) (E : List T) (b : Int) : ∀ (d : Nat) (w : List Int), (waysR n E b d w).length ≤ 8 ^ d := by
  intro d
  induction d with
  | zero => intro w; simp only [waysR]; split <;> simp
  | succ d ih =>
    intro w
    simp only [waysR]
    split
    · have : 1 ≤ 8 ^ (d + 1) := Nat.pos_of_ne_zero (by simp)
      simpa using this
    · have h1 := z93 (fun k => if Has E (rd w ((w.length : Int) - 1)) k ∧ k ∉ w then waysR n E b d (w ++ [k]) else []) (8 ^ d) (ks n) (fun k _ => by
        split
        · exact ih _
        · simp)
      have h2 : (ks n).length ≤ 8 := by rw [z12]; omega
      have h3 : (ks n).length * 8 ^ d ≤ 8 * 8 ^ d := Nat.mul_le_mul_right _ h2
      rw [Nat.pow_succ]
      omega
theorem z95 {n : Int} {w : List Int} (hn : w.Nodup) (hi : ∀ x ∈ w, In n x) : w.length ≤ n.toNat := by
  have h := List.Nodup.length_le_of_subset hn (l₂ := ks n) (fun x hx => mem_ks.2 (hi x hx))
  rwa [z12] at h
theorem z96 {w : List Int} {k : Int} (hn : w.Nodup) (hk : k ∉ w) : (w ++ [k]).Nodup := by
  unfold List.Nodup at *
  rw [List.pairwise_append]
  exact ⟨hn, by simp, fun x hx y hy e => hk (by rw [List.mem_singleton] at hy; subst hy; subst e; exact hx)⟩
theorem z97 {w : List Int} {a : Int} {r : List Int} (e : w = r ++ [a]) : rd w ((w.length : Int) - 1) = a := by
  subst e
  rw [show (((r ++ [a]).length : Int) - 1) = ((r.length : Nat) : Int) by simp, rd_nat]
  simp
theorem z98 {n : Int} {E : List T} {b : Int} (h : OK n E) : ∀ (d : Nat) (r : List Int) (a : Int) (u : List Int), (r ++ [a]).Nodup → (∀ x ∈ r ++ [a], In n x) → r.length + 1 + d = n.toNat →
    (u ∈ waysR n E b d (r ++ [a]) ↔ ∃ v, u = r ++ v ∧ u.Nodup ∧ Path E a b v) := by
  intro d
  induction d with
  | zero =>
    intro r a u hn hi hd
    simp only [waysR]
    rw [z97 rfl]
    constructor
    · intro hu
      split at hu
      · next e =>
        subst e
        rw [List.mem_singleton] at hu
        subst hu
        exact ⟨[a], rfl, hn, Path.single E a⟩
      · exact absurd hu (by simp)
    · rintro ⟨v, rfl, hnd, p⟩
      obtain ⟨s, rfl⟩ := p.cons_eq
      cases s with
      | nil =>
        have hb : a = b := by have := p.lst; simpa using this
        rw [if_pos hb]
        simp
      | cons c s =>
        exfalso
        have hc : In n c := (h.has p.walk.1).2.1
        have hcn : c ∉ r ++ [a] := by
          intro hc'
          rw [show r ++ a :: c :: s = (r ++ [a]) ++ c :: s by simp] at hnd
          exact (List.nodup_append.1 hnd).2.2 c hc' c (by simp) rfl
        have := z95 (n := n) (z96 hn hcn) (fun x hx => by
          rw [List.mem_append, List.mem_singleton] at hx
          rcases hx with hx | hx
          · exact hi x hx
          · subst hx; exact hc)
        simp at this
        omega
  | succ d ih =>
    intro r a u hn hi hd
    simp only [waysR]
    rw [z97 rfl]
    constructor
    · intro hu
      split at hu
      · next e =>
        subst e
        rw [List.mem_singleton] at hu
        subst hu
        exact ⟨[a], rfl, hn, Path.single E a⟩
      · obtain ⟨k, hk, hu⟩ := List.mem_flatMap.1 hu
        split at hu
        · next hc =>
          have hkn := mem_ks.1 hk
          obtain ⟨v, e, hnd, p⟩ := (ih (r ++ [a]) k u (z96 hn hc.2) (fun x hx => by
            rw [List.mem_append, List.mem_singleton] at hx
            rcases hx with hx | hx
            · exact hi x hx
            · subst hx; exact hkn) (by simp; omega)).1 hu
          refine ⟨a :: v, by rw [e]; simp, hnd, p.consP hc.1 (fun ha => ?_)⟩
          rw [e] at hnd
          exact (List.nodup_append.1 hnd).2.2 a (by simp) a ha rfl
        · exact absurd hu (by simp)
    · rintro ⟨v, rfl, hnd, p⟩
      obtain ⟨s, rfl⟩ := p.cons_eq
      cases s with
      | nil =>
        have hb : a = b := by have := p.lst; simpa using this
        rw [if_pos hb]
        simp
      | cons c s =>
        have hcn : c ∉ r ++ [a] := by
          intro hc'
          rw [show r ++ a :: c :: s = (r ++ [a]) ++ c :: s by simp] at hnd
          exact (List.nodup_append.1 hnd).2.2 c hc' c (by simp) rfl
        have hab : a ≠ b := by
          intro e
          have hb := p.lst
          rw [List.getLast?_cons_cons] at hb
          have := List.mem_of_getLast? hb
          have hx := p.nd
          rw [List.nodup_cons] at hx
          exact hx.1 (e ▸ this)
        rw [if_neg hab]
        have hc : In n c := (h.has p.walk.1).2.1
        refine List.mem_flatMap.2 ⟨c, mem_ks.2 hc, ?_⟩
        rw [if_pos ⟨p.walk.1, hcn⟩]
        refine (ih (r ++ [a]) c _ (z96 hn hcn) (fun x hx => by
            rw [List.mem_append, List.mem_singleton] at hx
            rcases hx with hx | hx
            · exact hi x hx
            · subst hx; exact hc) (by simp; omega)).2 ⟨c :: s, by simp, hnd, ?_⟩
        exact Path.drop (A := [a]) p
theorem z99 {n : Int} {E : List T} {b : Int} (h : OK n E) : ∀ (d : Nat) (r : List Int) (a : Int), (r ++ [a]).Nodup → (∀ x ∈ r ++ [a], In n x) → r.length + 1 + d = n.toNat → (waysR n E b d (r ++ [a])).Nodup := by
  intro d
  induction d with
  | zero => intro r a _ _ _; simp only [waysR]; split <;> simp
  | succ d ih =>
    intro r a hn hi hd
    simp only [waysR]
    split
    · simp
    · have hup : ∀ k ∈ ks n, k ∉ r ++ [a] → (∀ x ∈ r ++ [a] ++ [k], In n x) := fun k hk _ x hx => by
        rw [List.mem_append, List.mem_singleton] at hx
        rcases hx with hx | hx
        · exact hi x hx
        · subst hx; exact mem_ks.1 hk
      unfold List.Nodup
      rw [List.pairwise_flatMap]
      refine ⟨fun k hk => ?_, ?_⟩
      · split
        · next hc => exact ih (r ++ [a]) k (z96 hn hc.2) (hup k hk hc.2) (by simp; omega)
        · simp
      · refine (List.Pairwise.and_mem.1 (ks_nodup n)).imp ?_
        rintro k k' ⟨hk, hk', hne⟩ u hu u' hu' e
        subst e
        split at hu
        · next hc =>
          split at hu'
          · next hc' =>
            obtain ⟨v, e1, _, p1⟩ := (z98 h d (r ++ [a]) k u (z96 hn hc.2) (hup k hk hc.2) (by simp; omega)).1 hu
            obtain ⟨v', e2, _, p2⟩ := (z98 h d (r ++ [a]) k' u (z96 hn hc'.2) (hup k' hk' hc'.2) (by simp; omega)).1 hu'
            rw [e1] at e2
            have := List.append_cancel_left e2
            subst this
            have e3 := p1.hd.symm.trans p2.hd
            injection e3 with e3
            exact hne e3
          · exact absurd hu' (by simp)
        · exact absurd hu (by simp)
noncomputable def allW (n : Int) (E : List T) (a b : Int) : List (List Int) := sortW (waysR n E b (n.toNat - 1) [a])
theorem mem_allW {n : Int} {E : List T} {a b : Int} (h : OK n E) (ha : In n a) {w : List Int} : w ∈ allW n E a b ↔ Path E a b w := by
  unfold allW
  rw [(sortW_perm _).mem_iff, show [a] = [] ++ [a] from rfl, z98 h (n.toNat - 1) [] a w (by simp) (by simpa using ha) (by simp; have := ha.1; have := ha.2; omega)]
  exact ⟨fun ⟨v, e, _, p⟩ => by rw [e]; exact p, fun p => ⟨w, rfl, p.nd, p⟩⟩
theorem z100 {n : Int} {E : List T} {a b : Int} (h : OK n E) (ha : In n a) : (allW n E a b).Nodup := by
  unfold allW
  rw [(sortW_perm _).nodup_iff]
  exact z99 h (n.toNat - 1) [] a (by simp) (by simpa using ha) (by simp; have := ha.1; have := ha.2; omega)
theorem Path.len {n : Int} {E : List T} {a b : Int} {w : List Int} (h : OK n E) (ha : In n a) (p : Path E a b w) : w.length ≤ 8 := by
  have := z95 (n := n) p.nd (fun x hx => (p.conn_mem hx).inNet h ha)
  have := h.n8
  omega
theorem allW_len {n : Int} {E : List T} {a b : Int} (h : OK n E) (ha : In n a) : (allW n E a b).length ≤ 1000000000 ∧ ∀ w ∈ allW n E a b, w.length ≤ 8 := by
  refine ⟨?_, fun w hw => ((mem_allW h ha).1 hw).len h ha⟩
  unfold allW
  rw [(sortW_perm _).length_eq]
  have h1 := z94 (n := n) (by have := h.n8; omega) E b (n.toNat - 1) [a]
  have h2 : 8 ^ (n.toNat - 1) ≤ 8 ^ 7 := Nat.pow_le_pow_right (by omega) (by have := h.n8; omega)
  have h3 : (8 : Nat) ^ 7 ≤ 1000000000 := by decide
  omega
end Go.Proofs.Ytffflhmblelegaa.Th
namespace Go.Proofs.Ytffflhmblelegaa.Th
open Go.RowKit Go.Proofs.YtffflhmblelegaaW.PrintWords Go.Proofs.YtffflhmblelegaaW.PrintLast Go.Proofs.YtffflhmblelegaaW.PrintMore Go.Proofs.Ytffflhmblelegaa.F
noncomputable def nextL (n : Int) (E : List T) (v : Int) : List Int := (ks n).filter (fun c => dec (Has E v c))
theorem mem_nextL {n : Int} {E : List T} {v c : Int} : c ∈ nextL n E v ↔ In n c ∧ Has E v c := by
  unfold nextL
  rw [List.mem_filter, mem_ks, dec_iff]
  exact Iff.rfl
theorem z101 (n : Int) (E : List T) (v : Int) : (nextL n E v).length ≤ n.toNat := by
  have := List.length_filter_le (fun c => dec (Has E v c)) (ks n)
  rw [z12] at this
  exact this
theorem z102 (n : Int) (E : List T) (v : Int) (hE : E.length ≤ 1048576) (hn : n ≤ 1000) : ∀ (d : Nat) (i : Int) (out : List Int), 0 ≤ i → i + d = n → out.length ≤ i.toNat →
    Ev (fun k => spec_l2Next.l0 k v out i n E) (out ++ (ksFrom n i).filter (fun c => dec (Has E v c)))
  | 0, i, out, h0, h, _ => by
    refine Ev.succ ?_
    simp only [spec_l2Next.l0]
    refine Ev.neg (by omega) (Ev.some_ ?_)
    rw [z16 (by omega)]; simp
  | d + 1, i, out, h0, h, hl => by
    refine Ev.succ ?_
    simp only [spec_l2Next.l0]
    refine Ev.pos (by omega) (Ev.bind (ev_l1Has n E v i hE) ?_)
    rw [z17 h0 (by omega), w64 (by omega)]
    by_cases hv : Has E v i
    · refine Ev.pos (dec_t hv) (Ev.pos (by omega) ?_)
      refine Ev.cast (z102 n E v hE hn d (i + 1) (out ++ [i]) (by omega) (by omega) (by simp only [List.length_append, List.length_singleton]; omega)) ?_
      rw [List.filter_cons_of_pos (p := fun c => dec (Has E v c)) (dec_t hv)]; simp
    · refine Ev.neg (by rw [dec_f hv]; simp) ?_
      refine Ev.cast (z102 n E v hE hn d (i + 1) out (by omega) (by omega) (by omega)) ?_
      rw [List.filter_cons_of_neg (p := fun c => dec (Has E v c)) (by rw [dec_f hv]; simp)]
theorem z103 {n : Int} {E : List T} (v : Int) (hE : E.length ≤ 1048576) (h0 : 0 ≤ n) (hn : n ≤ 1000) : Ev (fun k => spec_l2Next.f k n E v) (nextL n E v) := by
  simp only [spec_l2Next.f]
  refine Ev.cast (z102 n E v hE hn n.toNat 0 [] (by omega) (by omega) (by simp)) ?_
  rw [z15]; rfl
structure Srch (n : Int) (E : List T) (a : Int) (seen : List Bool) (row : List Int) (at_ : Int → Prop) : Prop where
  len : seen.length = n.toNat
  ok : ∀ x, In n x → rdOf false seen x = true → Conn E a x
  rows : ∀ x ∈ row, In n x ∧ rdOf false seen x = true
  shut : ∀ x, In n x → rdOf false seen x = true → x ∈ row ∨ at_ x ∨ ∀ c, In n c → Has E x c → rdOf false seen c = true
  self : rdOf false seen a = true
theorem Srch.done {n : Int} {E : List T} {a : Int} {seen : List Bool} (h : OK n E) (ha : In n a) (s : Srch n E a seen [] (fun _ => False)) : seen = reachL n E a := by
  refine ext_rdB (by rw [s.len]; unfold reachL; rw [List.length_map, z12]) (fun x h0 hx => ?_)
  rw [s.len] at hx
  have hx' : In n x := ⟨h0, by omega⟩
  unfold reachL
  rw [z18 n _ x h0 hx'.2]
  refine dec_of ⟨s.ok x hx', fun hc => ?_⟩
  have := hc.keeps (P := fun y => In n y ∧ rdOf false seen y = true) (fun b c m k => ⟨(h.has m).2.1, ?_⟩) ⟨ha, s.self⟩
  · exact this.2
  · rcases s.shut b k.1 k.2 with e | e | e
    · simp at e
    · exact e.elim
    · exact e c (h.has m).2.1 m
end Go.Proofs.Ytffflhmblelegaa.Th
namespace Go.Proofs.Ytffflhmblelegaa.Th
open Go.RowKit Go.Proofs.YtffflhmblelegaaW.PrintWords Go.Proofs.YtffflhmblelegaaW.PrintLast Go.Proofs.YtffflhmblelegaaW.PrintMore Go.Proofs.Ytffflhmblelegaa.F Classical
noncomputable def onR (n : Int) (E : List T) (b : Int) : Nat → List Int → List (List Int)
  | 0, w => if rd w ((w.length : Int) - 1) = b then [w] else []
  | d + 1, w => if rd w ((w.length : Int) - 1) = b then [] else (nextL n E (rd w ((w.length : Int) - 1))).flatMap (fun k => if k ∈ w then [] else onR n E b d (w ++ [k]))
theorem onR_pre (n : Int) (E : List T) (b : Int) : ∀ (d : Nat) (w u : List Int), u ∈ onR n E b d w → ∃ s, u = w ++ s ∧ s.length = d
  | 0, w, u, h => by
    simp only [onR] at h
    split at h
    · rw [List.mem_singleton] at h
      exact ⟨[], by rw [h]; simp, rfl⟩
    · exact absurd h (by simp)
  | d + 1, w, u, h => by
    simp only [onR] at h
    split at h
    · exact absurd h (by simp)
    · obtain ⟨k, _, hu⟩ := List.mem_flatMap.1 h
      split at hu
      · exact absurd hu (by simp)
      · obtain ⟨s, rfl, hs⟩ := onR_pre n E b d (w ++ [k]) u hu
        exact ⟨k :: s, by simp, by simp [hs]⟩
theorem ltL_app {l m : List Int} (h : ltL l m) : ∀ w : List Int, ltL (w ++ l) (w ++ m)
  | [] => h
  | a :: w => by
    rw [List.cons_append, List.cons_append]
    unfold ltL
    exact Or.inr ⟨rfl, ltL_app h w⟩
theorem z104 (n : Int) (E : List T) (v : Int) : (nextL n E v).Pairwise (· < ·) := (z14 n).filter _
theorem z105 (n : Int) (E : List T) (b : Int) : ∀ (d : Nat) (w : List Int), (onR n E b d w).Pairwise ltW
  | 0, w => by simp only [onR]; split <;> simp
  | d + 1, w => by
    simp only [onR]
    split
    · simp
    · rw [List.pairwise_flatMap]
      refine ⟨fun k _ => ?_, (z104 n E _).imp ?_⟩
      · split
        · simp
        · exact z105 n E b d (w ++ [k])
      · intro k k' hlt u hu u' hu'
        split at hu
        · exact absurd hu (by simp)
        · split at hu'
          · exact absurd hu' (by simp)
          · obtain ⟨s, rfl, hs⟩ := onR_pre n E b d _ _ hu
            obtain ⟨s', rfl, hs'⟩ := onR_pre n E b d _ _ hu'
            refine Or.inr ⟨by simp [hs, hs'], ?_⟩
            rw [List.append_assoc, List.append_assoc]
            exact ltL_app (by rw [List.singleton_append, List.singleton_append]; unfold ltL; exact Or.inl hlt) w
theorem mem_onR {n : Int} {E : List T} {b : Int} (h : OK n E) : ∀ (d : Nat) (r : List Int) (a : Int) (u : List Int), (r ++ [a]).Nodup →
    (u ∈ onR n E b d (r ++ [a]) ↔ ∃ v, u = r ++ v ∧ u.Nodup ∧ Path E a b v ∧ v.length = d + 1) := by
  intro d
  induction d with
  | zero =>
    intro r a u hn
    simp only [onR]
    rw [z97 rfl]
    constructor
    · intro hu
      split at hu
      · next e =>
        subst e
        rw [List.mem_singleton] at hu
        subst hu
        exact ⟨[a], rfl, hn, Path.single E a, rfl⟩
      · exact absurd hu (by simp)
    · rintro ⟨v, rfl, hnd, p, hl⟩
      obtain ⟨s, rfl⟩ := p.cons_eq
      obtain rfl : s = [] := List.eq_nil_of_length_eq_zero (by simpa using hl)
      have hb : a = b := by have := p.lst; simpa using this
      rw [if_pos hb]
      simp
  | succ d ih =>
    intro r a u hn
    simp only [onR]
    rw [z97 rfl]
    constructor
    · intro hu
      split at hu
      · exact absurd hu (by simp)
      · obtain ⟨k, hk, hu⟩ := List.mem_flatMap.1 hu
        split at hu
        · exact absurd hu (by simp)
        · next hc =>
          obtain ⟨v, e, hnd, p, hl⟩ := (ih (r ++ [a]) k u (z96 hn hc)).1 hu
          refine ⟨a :: v, by rw [e]; simp, hnd, p.consP (mem_nextL.1 hk).2 (fun ha => ?_), by rw [List.length_cons, hl]⟩
          rw [e] at hnd
          exact (List.nodup_append.1 hnd).2.2 a (by simp) a ha rfl
    · rintro ⟨v, rfl, hnd, p, hl⟩
      obtain ⟨s, rfl⟩ := p.cons_eq
      cases s with
      | nil => simp at hl
      | cons c s =>
        have hcn : c ∉ r ++ [a] := by
          intro hc'
          rw [show r ++ a :: c :: s = (r ++ [a]) ++ c :: s by simp] at hnd
          exact (List.nodup_append.1 hnd).2.2 c hc' c (by simp) rfl
        have hab : a ≠ b := by
          intro e
          have hb := p.lst
          rw [List.getLast?_cons_cons] at hb
          have := List.mem_of_getLast? hb
          have hx := p.nd
          rw [List.nodup_cons] at hx
          exact hx.1 (e ▸ this)
        rw [if_neg hab]
        have hc : In n c := (h.has p.walk.1).2.1
        refine List.mem_flatMap.2 ⟨c, mem_nextL.2 ⟨hc, p.walk.1⟩, ?_⟩
        rw [if_neg hcn]
        refine (ih (r ++ [a]) c _ (z96 hn hcn)).2 ⟨c :: s, by simp, hnd, ?_, by simpa using hl⟩
        exact Path.drop (A := [a]) p
noncomputable def specAll (n : Int) (E : List T) (a b : Int) : List (List Int) := (List.range n.toNat).flatMap (fun i => onR n E b i [a])
theorem z106 (n : Int) (E : List T) (a b : Int) : (specAll n E a b).Pairwise ltW := by
  unfold specAll
  rw [List.pairwise_flatMap]
  refine ⟨fun i _ => z105 n E b i [a], List.pairwise_lt_range.imp ?_⟩
  intro i j hij u hu v hv
  obtain ⟨s, rfl, hs⟩ := onR_pre n E b _ _ _ hu
  obtain ⟨s', rfl, hs'⟩ := onR_pre n E b _ _ _ hv
  exact Or.inl (by simp [hs, hs']; exact hij)
theorem z107 {x y : List Int} (h : ltW x y) : ¬ ltW y x := fun k => ltW_irrefl _ (ltW_trans h k)
theorem z108 {n : Int} {E : List T} {a b : Int} (h : OK n E) (ha : In n a) : specAll n E a b = allW n E a b := by
  have hs := z106 n E a b
  have hn : (specAll n E a b).Nodup := hs.imp (fun k e => by subst e; exact ltW_irrefl _ k)
  refine sortedW_unique (l := specAll n E a b) (m := allW n E a b) ((List.perm_ext_iff_of_nodup hn (z100 h ha)).2 (fun u => ?_)) (hs.imp (fun k => z107 k)) ?_
  · rw [mem_allW h ha]
    unfold specAll
    rw [List.mem_flatMap]
    constructor
    · rintro ⟨i, _, hu⟩
      obtain ⟨v, e, _, p, _⟩ := (mem_onR h i [] a u (by simp)).1 hu
      rw [e]; exact p
    · intro p
      have hl := z95 (n := n) p.nd (fun x hx => (p.conn_mem hx).inNet h ha)
      have h1 : 0 < u.length := List.length_pos_iff.2 p.ne
      exact ⟨u.length - 1, List.mem_range.2 (by omega), (mem_onR h _ [] a u (by simp)).2 ⟨u, rfl, p.nd, p, by omega⟩⟩
  · unfold allW
    exact sortW_sorted _
structure Far (n : Int) (E : List T) (b : Int) (far : List Int) : Prop where
  len : far.length = n.toNat
  zero : rd far b = 0
  down : ∀ x, In n x → 0 ≤ rd far x → x = b ∨ ∃ c, Has E x c ∧ 0 ≤ rd far c ∧ rd far x = rd far c + 1
  step : ∀ x c, Has E x c → 0 ≤ rd far x → 0 ≤ rd far c ∧ rd far c ≤ rd far x + 1
def unseen (out : List Int) : Nat := falses (out.map (fun x => decide (0 ≤ x)))
structure FarS (n : Int) (E : List T) (b : Int) (out row : List Int) (at_ : Int → Prop) (m : Int) : Prop where
  len : out.length = n.toNat
  zero : rd out b = 0
  cap : ∀ x, In n x → rd out x + unseen out ≤ n
  low : ∀ x, In n x → -1 ≤ rd out x
  down : ∀ x, In n x → 0 ≤ rd out x → x = b ∨ ∃ c, Has E x c ∧ 0 ≤ rd out c ∧ rd out x = rd out c + 1
  rows : ∀ x ∈ row, In n x ∧ 0 ≤ rd out x
  inc : row.Pairwise (fun x y => rd out x ≤ rd out y)
  near : ∀ x ∈ row, m ≤ rd out x
  top : ∀ x, In n x → rd out x ≤ m + 1
  shut : ∀ x, In n x → 0 ≤ rd out x → x ∈ row ∨ at_ x ∨ ∀ c, Has E x c → 0 ≤ rd out c ∧ rd out c ≤ rd out x + 1
theorem z109 {n : Int} (hn : n ≤ 8) (E : List T) (b : Int) : ∀ (d : Nat) (w : List Int), (onR n E b d w).length ≤ 8 ^ d := by
  intro d
  induction d with
  | zero => intro w; simp only [onR]; split <;> simp
  | succ d ih =>
    intro w
    simp only [onR]
    split
    · simp
    · have h1 := z93 (fun k => if k ∈ w then [] else onR n E b d (w ++ [k])) (8 ^ d) (nextL n E (rd w ((w.length : Int) - 1))) (fun k _ => by
        split
        · simp
        · exact ih _)
      have h2 : (nextL n E (rd w ((w.length : Int) - 1))).length ≤ 8 := by have := z101 n E (rd w ((w.length : Int) - 1)); omega
      have h3 : (nextL n E (rd w ((w.length : Int) - 1))).length * 8 ^ d ≤ 8 * 8 ^ d := Nat.mul_le_mul_right _ h2
      rw [Nat.pow_succ]
      omega
theorem ev_l2On {n : Int} {E : List T} {b : Int} (h : OK n E) {size : Nat} (hs : size ≤ 8) : ∀ (d : Nat) (w : List Int) (out : List (List Int)), w ≠ [] → w.length + d = size → out.length + 8 ^ d ≤ 1000000000 →
    Ev (fun k => spec_l2On.f k n E w b size out) (out ++ onR n E b d w) := by
  have hE := h.length
  have h8 := h.n8
  intro d
  induction d with
  | zero =>
    intro w out hw hd ho
    have hl : 0 < w.length := List.length_pos_iff.2 hw
    refine Ev.succ ?_
    simp only [spec_l2On.f, onR]
    rw [w64 (by omega)]
    refine Ev.pos (by omega) (Ev.pos (by omega) ?_)
    by_cases e : rd w ((w.length : Int) - 1) = b
    · rw [if_pos e]
      refine Ev.pos e (Ev.pos (by omega) (Ev.bind0 (a := []) rfl (Ev.pos (by simp; omega) (Ev.pos (by omega) (Ev.some_ (by simp))))))
    · rw [if_neg e, List.append_nil]
      exact Ev.neg e (Ev.pos (by omega) (Ev.now _))
  | succ d ih =>
    intro w out hw hd ho
    have hl : 0 < w.length := List.length_pos_iff.2 hw
    have hp : 8 ^ (d + 1) = 8 * 8 ^ d := by rw [Nat.pow_succ]; omega
    have hp1 : 1 ≤ 8 ^ d := Nat.pos_of_ne_zero (by simp)
    refine Ev.succ ?_
    simp only [spec_l2On.f, onR]
    rw [w64 (by omega)]
    refine Ev.pos (by omega) (Ev.pos (by omega) ?_)
    by_cases e : rd w ((w.length : Int) - 1) = b
    · rw [if_pos e, List.append_nil]
      exact Ev.pos e (Ev.neg (by omega) (Ev.now _))
    · rw [if_neg e]
      refine Ev.neg e (Ev.neg (by omega) (Ev.bind (z103 _ (by omega) h.n0 (by omega)) ?_))
      have hnl := z101 n E (rd w ((w.length : Int) - 1))
      generalize hL : nextL n E (rd w ((w.length : Int) - 1)) = L at hnl
      have hloop : ∀ (m j : Nat) (o : List (List Int)), j + m = L.length → o.length + m * 8 ^ d ≤ 1000000000 → Ev (fun k => spec_l2On.l0 k w b size o L j n E) (o ++ (L.drop j).flatMap (fun k => if k ∈ w then [] else onR n E b d (w ++ [k]))) := by
        intro m
        induction m with
        | zero =>
          intro j o hj _
          rw [List.drop_of_length_le (by omega), List.flatMap_nil, List.append_nil]
          refine Ev.succ ?_
          simp only [spec_l2On.l0]
          exact Ev.neg (by omega) (Ev.now _)
        | succ m ihm =>
          intro j o hj hb
          have hjl : j < L.length := by omega
          have hb' : o.length + (m * 8 ^ d + 8 ^ d) ≤ 1000000000 := by rw [Nat.succ_mul] at hb; exact hb
          rw [List.drop_eq_getElem_cons hjl, List.flatMap_cons]
          refine Ev.succ ?_
          simp only [spec_l2On.l0, z20 L j hjl]
          refine Ev.pos (by omega) (Ev.pos (by omega) (Ev.bind (ev_l2Has w L[j] (by omega)) ?_))
          rw [w64 (by omega)]
          by_cases hin : L[j] ∈ w
          · rw [if_pos hin, List.nil_append]
            have := ihm (j + 1) o (by omega) (by omega)
            exact Ev.pos (dec_t hin) (by exact_mod_cast this)
          · rw [if_neg hin]
            refine Ev.neg (by rw [dec_f hin]; simp) (Ev.bind0 (a := []) rfl (Ev.pos (by simp; omega) (Ev.bind0 (a := w) (by simp) (Ev.bind0 (a := [L[j]]) rfl (Ev.pos (by simp; omega) ?_)))))
            have hl1 := z109 (n := n) (by omega) E b d (w ++ [L[j]])
            refine Ev.bind (ih (w ++ [L[j]]) o (by simp) (by simp; omega) (by omega)) ?_
            have := ihm (j + 1) (o ++ onR n E b d (w ++ [L[j]])) (by omega) (by rw [List.length_append]; omega)
            rw [List.append_assoc] at this
            exact_mod_cast this
      have := hloop L.length 0 out (by omega) (by
        have : L.length * 8 ^ d ≤ 8 * 8 ^ d := Nat.mul_le_mul_right _ (by omega)
        omega)
      rw [List.drop_zero] at this
      exact_mod_cast this
theorem z110 {n : Int} {E : List T} {a b : Int} (h : OK n E) : ∀ (d i : Nat) (out : List (List Int)), i + d = n.toNat → out.length + d * 2097152 ≤ 100000000 →
    Ev (fun k => spec_WayAll.l0 k a b out ((i : Int) + 1) n E) (out ++ ((List.range n.toNat).drop i).flatMap (fun i => onR n E b i [a]))
  | 0, i, out, hd, _ => by
    have h0 := h.n0
    rw [List.drop_of_length_le (by rw [List.length_range]; omega), List.flatMap_nil, List.append_nil]
    refine Ev.succ ?_
    simp only [spec_WayAll.l0]
    exact Ev.neg (by omega) (Ev.now _)
  | d + 1, i, out, hd, ho => by
    have h0 := h.n0
    have h8 := h.n8
    have hi : i < (List.range n.toNat).length := by rw [List.length_range]; omega
    have hl := z109 h8 E b i [a]
    have hp : 8 ^ i ≤ 8 ^ 7 := Nat.pow_le_pow_right (by omega) (by omega)
    have hp7 : (8 : Nat) ^ 7 = 2097152 := by decide
    rw [List.drop_eq_getElem_cons hi, List.flatMap_cons, List.getElem_range]
    refine Ev.succ ?_
    simp only [spec_WayAll.l0]
    rw [w64 (by omega)]
    have key := ev_l2On (b := b) h (size := i + 1) (by omega) i [a] out (by simp) (by simp; omega) (by omega)
    refine Ev.pos (by omega) (Ev.bind (a := out ++ onR n E b i [a]) ?_ ?_)
    · exact_mod_cast key
    · have := z110 (a := a) (b := b) h d (i + 1) (out ++ onR n E b i [a]) (by omega) (by rw [List.length_append]; omega)
      rw [List.append_assoc] at this
      exact_mod_cast this
noncomputable def wayAll (n : Int) (E : List T) (a b : Int) : List (List Int) := if (OK n E ∧ In n a) ∧ (OK n E ∧ In n b) then allW n E a b else []
theorem z111 (n : Int) (E : List T) (a b : Int) : (wayAll n E a b).length ≤ 1000000000 ∧ ∀ w ∈ wayAll n E a b, w.length ≤ 8 := by
  unfold wayAll
  split
  · next h => exact allW_len h.1.1 h.1.2
  · simp
theorem z112 (n : Int) (E : List T) (a b : Int) (hE : E.length ≤ 1048576) (hw : WF E) : Ev (fun k => spec_WayAll.f k n E a b) (wayAll n E a b) := by
  simp only [spec_WayAll.f]
  refine Ev.bind0 (a := []) rfl (Ev.bind (z10 n E a hE hw) ?_)
  unfold wayAll
  by_cases h1 : OK n E ∧ In n a
  · refine Ev.pos (dec_t h1) (Ev.bind (z10 n E b hE hw) (Ev.succ ?_))
    simp only [spec_WayAll.j0]
    by_cases h2 : OK n E ∧ In n b
    · rw [dec_t h2, if_pos ⟨h1, h2⟩, ← z108 h1.1 h1.2]
      have h8 := h1.1.n8
      have := z110 (a := a) (b := b) h1.1 n.toNat 0 [] (by omega) (by simp; omega)
      rw [List.drop_zero, List.nil_append] at this
      exact Ev.neg (by simp) (by exact_mod_cast this)
    · rw [dec_f h2, if_neg (fun k => h2 k.2)]
      exact Ev.pos rfl (Ev.now _)
  · rw [if_neg (fun k => h1 k.1)]
    refine Ev.neg (by rw [dec_f h1]; simp) (Ev.succ ?_)
    simp only [spec_WayAll.j0]
    exact Ev.pos trivial (Ev.now _)
end Go.Proofs.Ytffflhmblelegaa.Th
namespace Go.Proofs.Ytffflhmblelegaa.Th
open Go.RowKit Go.Proofs.YtffflhmblelegaaW.PrintWords Go.Proofs.YtffflhmblelegaaW.PrintLast Go.Proofs.YtffflhmblelegaaW.PrintMore Go.Proofs.Ytffflhmblelegaa.F
theorem z113 (n : Int) (E : List T) (a b : Int) (hE : E.length ≤ 1048576) : ∀ (d i : Nat) (out : List T), i + d = E.length → out.length ≤ i →
    Ev (fun k => spec_NetCut.l0 k a b i n E n out) (n, out ++ less (E.drop i) (· = tie a b), true)
  | 0, i, out, h, _ => by
    refine Ev.succ ?_
    simp only [spec_NetCut.l0]
    refine Ev.neg (by omega) (Ev.some_ ?_)
    rw [List.drop_of_length_le (by omega)]
    simp [less]
  | d + 1, i, out, h, hl => by
    have hi : i < E.length := by omega
    refine Ev.succ ?_
    simp only [spec_NetCut.l0, rd_T_nat E i hi]
    refine Ev.pos (by omega) (Ev.pos (by omega) (Ev.bind0 (l1Tie a b) ?_))
    rw [List.drop_eq_getElem_cons hi, w64 (by omega)]
    by_cases h0 : E[i] = tie a b
    · rw [z28 (p := fun x => x = tie a b) h0]
      exact Ev.neg (by rw [h0]; simp) (z113 n E a b hE d (i + 1) out (by omega) (by omega))
    · rw [z29 (p := fun x => x = tie a b) h0]
      refine Ev.pos ?_ (Ev.pos (by omega) ?_)
      · rw [← Bool.not_and, Bool.not_eq_true', ← Bool.not_eq_true]
        intro k
        simp only [Bool.and_eq_true, beq_iff_eq] at k
        exact h0 (T.ext k.1 k.2)
      · refine Ev.cast (z113 n E a b hE d (i + 1) (out ++ [E[i]]) (by omega) (by simp only [List.length_append, List.length_singleton]; omega)) ?_
        simp
theorem z114 {n : Int} {E : List T} {a b : Int} (h : OK n E) (hh : Has E a b) : Ev (fun k => spec_NetCut.f k n E a b) (n, less E (· = tie a b), true) := by
  have := h.length
  simp only [spec_NetCut.f]
  refine Ev.bind (z11 n E a b (by omega) h.wf) (Ev.pos (dec_t ⟨h, hh⟩) ?_)
  exact z113 n E a b (by omega) E.length 0 [] (by omega) (by simp)
end Go.Proofs.Ytffflhmblelegaa.Th
namespace Go.Proofs.Ytffflhmblelegaa.Th
open Go.RowKit Go.Proofs.YtffflhmblelegaaW.PrintWords Go.Proofs.YtffflhmblelegaaW.PrintLast Go.Proofs.YtffflhmblelegaaW.PrintMore Go.Proofs.Ytffflhmblelegaa.F Classical
theorem rdL_at (R : List (List Int)) (j : Nat) (hj : j < R.length) : rd_L2 R (j : Int) = R[j] := by
  unfold rd_L2
  rw [List.getD_eq_getElem?_getD, Int.toNat_natCast, List.getElem?_eq_getElem hj]
  rfl
end Go.Proofs.Ytffflhmblelegaa.Th
namespace Go.Proofs.Ytffflhmblelegaa.Th
open Go.RowKit Go.Proofs.YtffflhmblelegaaW.PrintWords Go.Proofs.YtffflhmblelegaaW.PrintLast Go.Proofs.YtffflhmblelegaaW.PrintMore Go.Proofs.Ytffflhmblelegaa.F
theorem z115 {s : List Int} (h : Bytes s) (w : List Int) (hw : 0 < w.length ∧ w.length ≤ 20) (p : Int) (hp : 0 ≤ p) (hq : p ≤ 60000) : ∃ w' p', Ev (fun k => spec_l71Walk.j2 k w s p) (w', p') ∧ w'.length ≤ 20 ∧ 0 ≤ p' ∧ p' ≤ p + 3 := by
  obtain ⟨v, hv, _⟩ := ev_pick h (p := p) ⟨hp, by omega⟩ 16 (by omega)
  by_cases e : v = 0
  · obtain ⟨u, hu, hu1, _⟩ := ev_pick h (p := p + 1) ⟨by omega, by omega⟩ (w.length : Int) (by omega)
    obtain ⟨z, hz, _⟩ := ev_pick h (p := p + 1 + 1) ⟨by omega, by omega⟩ 9 (by omega)
    have hu2 := hu1 (by omega)
    refine ⟨w.set u.toNat z, p + 1 + 1 + 1, Ev.succ ?_, by rw [List.length_set]; omega, by omega, by omega⟩
    simp only [spec_l71Walk.j2]
    exact Ev.bind hv (Ev.pos e (Ev.bind hu (Ev.bind hz (Ev.pos hu2.1 (Ev.pos hu2.2 (Ev.now _))))))
  · by_cases e1 : v = 1
    · refine ⟨[], p + 1, Ev.succ ?_, by simp, by omega, by omega⟩
      simp only [spec_l71Walk.j2]
      exact Ev.bind hv (Ev.neg e (Ev.pos e1 (Ev.now _)))
    · refine ⟨w, p + 1, Ev.succ ?_, by omega, by omega, by omega⟩
      simp only [spec_l71Walk.j2]
      exact Ev.bind hv (Ev.neg e (Ev.neg e1 (Ev.now _)))
theorem z116 {s : List Int} (h : Bytes s) {n : Int} {E : List T} (hs : Small n E) : ∀ (d : Nat) (i : Int) (w : List Int) (p : Int), i ≤ d → 0 < w.length → w.length + d ≤ 20 → 0 ≤ p → p + 3 * d ≤ 50000 → ∃ w' p', Ev (fun k => spec_l71Walk.l0 k w i s p n E) (w', p') ∧ w'.length ≤ 20 ∧ 0 ≤ p' ∧ p' ≤ p + 3 * d + 3 := by
  intro d
  induction d with
  | zero =>
    intro i w p hi hw hl hp hq
    obtain ⟨w2, p2, h2, hw2, hp2, hq2⟩ := z115 h w ⟨hw, by omega⟩ p hp (by omega)
    refine ⟨w2, p2, Ev.succ ?_, hw2, hp2, by omega⟩
    simp only [spec_l71Walk.l0]
    exact Ev.neg (by omega) h2
  | succ d ih =>
    intro i w p hi hw hl hp hq
    by_cases hi0 : i > 0
    · have hj1 : ∀ (L : List Int), L.length ≤ 100 → ∃ w' p', Ev (fun k => spec_l71Walk.j1 k w i L s p n E) (w', p') ∧ w'.length ≤ 20 ∧ 0 ≤ p' ∧ p' ≤ p + 3 * ((d + 1 : Nat) : Int) + 3 := fun L hL => by
        by_cases hL0 : (L.length : Int) = 0
        · obtain ⟨w2, p2, h2, hw2, hp2, hq2⟩ := z115 h w ⟨hw, by omega⟩ p hp (by omega)
          refine ⟨w2, p2, Ev.succ ?_, hw2, hp2, by omega⟩
          simp only [spec_l71Walk.j1]
          exact Ev.pos hL0 h2
        · obtain ⟨v, hv, hv1, _⟩ := ev_pick h (p := p) ⟨hp, by omega⟩ (L.length : Int) (by omega)
          have hv2 := hv1 (by omega)
          by_cases hin : rd L v ∈ w
          · obtain ⟨u, hu, _⟩ := ev_pick h (p := p + 1) ⟨by omega, by omega⟩ 6 (by omega)
            by_cases hu0 : u > 0
            · obtain ⟨w2, p2, h2, hw2, hp2, hq2⟩ := ih (i - 1) w (p + 1 + 1) (by omega) hw (by omega) (by omega) (by omega)
              refine ⟨w2, p2, Ev.succ ?_, hw2, hp2, by omega⟩
              simp only [spec_l71Walk.j1]
              refine Ev.neg hL0 (Ev.bind hv (Ev.pos hv2.1 (Ev.pos hv2.2 (Ev.bind (ev_l2Has w (rd L v) (by omega)) (Ev.pos (dec_t hin) (Ev.bind hu (Ev.pos hu0 ?_)))))))
              rw [w64 (by omega)]
              exact h2
            · obtain ⟨w2, p2, h2, hw2, hp2, hq2⟩ := ih (i - 1) (w ++ [rd L v]) (p + 1 + 1) (by omega) (by simp) (by simp; omega) (by omega) (by omega)
              refine ⟨w2, p2, Ev.succ ?_, hw2, hp2, by omega⟩
              simp only [spec_l71Walk.j1]
              refine Ev.neg hL0 (Ev.bind hv (Ev.pos hv2.1 (Ev.pos hv2.2 (Ev.bind (ev_l2Has w (rd L v) (by omega)) (Ev.pos (dec_t hin) (Ev.bind hu (Ev.neg hu0 (Ev.pos (by omega) ?_))))))))
              rw [w64 (by omega)]
              exact h2
          · obtain ⟨w2, p2, h2, hw2, hp2, hq2⟩ := ih (i - 1) (w ++ [rd L v]) (p + 1) (by omega) (by simp) (by simp; omega) (by omega) (by omega)
            refine ⟨w2, p2, Ev.succ ?_, hw2, hp2, by omega⟩
            simp only [spec_l71Walk.j1]
            refine Ev.neg hL0 (Ev.bind hv (Ev.pos hv2.1 (Ev.pos hv2.2 (Ev.bind (ev_l2Has w (rd L v) (by omega)) (Ev.neg (by rw [dec_f hin]; simp) (Ev.pos (by omega) ?_))))))
            rw [w64 (by omega)]
            exact h2
      by_cases hk : OK n E ∧ In n (rd w ((w.length : Int) - 1))
      · have h8 := hk.1.n8
        have hnl := z101 n E (rd w ((w.length : Int) - 1))
        obtain ⟨w2, p2, h2, hw2, hp2, hq2⟩ := hj1 (nextL n E (rd w ((w.length : Int) - 1))) (by omega)
        refine ⟨w2, p2, Ev.succ ?_, hw2, hp2, hq2⟩
        simp only [spec_l71Walk.l0]
        rw [w64 (by omega)]
        exact Ev.pos hi0 (Ev.pos (by omega) (Ev.pos (by omega) (Ev.bind (z10 n E _ hs.le hs.wf) (Ev.pos (dec_t hk) (Ev.bind (z103 _ hs.le hk.1.n0 (by omega)) h2)))))
      · obtain ⟨w2, p2, h2, hw2, hp2, hq2⟩ := hj1 [] (by simp)
        refine ⟨w2, p2, Ev.succ ?_, hw2, hp2, hq2⟩
        simp only [spec_l71Walk.l0]
        rw [w64 (by omega)]
        exact Ev.pos hi0 (Ev.pos (by omega) (Ev.pos (by omega) (Ev.bind (z10 n E _ hs.le hs.wf) (Ev.neg (by rw [dec_f hk]; simp) h2))))
    · obtain ⟨w2, p2, h2, hw2, hp2, hq2⟩ := z115 h w ⟨hw, by omega⟩ p hp (by omega)
      refine ⟨w2, p2, Ev.succ ?_, hw2, hp2, by omega⟩
      simp only [spec_l71Walk.l0]
      exact Ev.neg hi0 h2
theorem z117 {s : List Int} (h : Bytes s) {n : Int} {E : List T} (hs : Small n E) (p : Int) (hp : 0 ≤ p) (hq : p ≤ 40000) : ∃ w p', Ev (fun k => spec_l71Walk.f k s p n E) (w, p') ∧ w.length ≤ 20 ∧ 0 ≤ p' ∧ p' ≤ p + 30 := by
  obtain ⟨a, p1, h1, _, hp1, hq1⟩ := z91 h p hp (by omega) hs
  obtain ⟨v, hv, hv1, _⟩ := ev_pick h (p := p1) ⟨hp1, by omega⟩ 7 (by omega)
  have hv2 := hv1 (by omega)
  obtain ⟨w, p2, h2, hw, hp2, hq2⟩ := z116 h hs 7 v [a] (p1 + 1) (by omega) (by simp) (by simp) (by omega) (by omega)
  refine ⟨w, p2, ?_, hw, hp2, by omega⟩
  simp only [spec_l71Walk.f]
  exact Ev.bind h1 (Ev.bind hv h2)
theorem z118 {s : List Int} (hs : Bytes s) {n : Int} {E : List T} (hn : Small n E) {a b : Int} {R W : List (List Int)} {i : Int} (hW : W.length ≤ 3) (hr : ∀ w ∈ W, w.length ≤ 20) (p : Int) (hp : 0 ≤ p) (hq : p ≤ 30000) :
    ∃ V, Ev (fun k => spec_DrawFlowOk.j1 k a b R W i false s p n E) (n, E, a, b, V) ∧ V.length ≤ 4 ∧ ∀ w ∈ V, w.length ≤ 20 := by
  obtain ⟨v, hv, _⟩ := ev_pick hs (p := p) ⟨hp, by omega⟩ 12 (by omega)
  by_cases e : v = 0
  · obtain ⟨x, p1, h1, hx, _, _⟩ := z117 hs hn (p + 1) (by omega) (by omega)
    refine ⟨W ++ [x], Ev.succ ?_, by simp; omega, fun w hw => ?_⟩
    · simp only [spec_DrawFlowOk.j1]
      exact Ev.neg (by simp) (Ev.bind hv (Ev.pos e (Ev.bind h1 (Ev.pos (by omega) (Ev.now _)))))
    · rcases List.mem_append.1 hw with h | h
      · exact hr w h
      · rw [List.mem_singleton.1 h]; exact hx
  · refine ⟨W, Ev.succ ?_, by omega, hr⟩
    simp only [spec_DrawFlowOk.j1]
    exact Ev.neg (by simp) (Ev.bind hv (Ev.neg e (Ev.now _)))
theorem z119 {s : List Int} (hs : Bytes s) {n : Int} {E : List T} (hn : Small n E) {a b : Int} {R : List (List Int)} (hR : R.length ≤ 1000000000) (hl : ∀ w ∈ R, w.length ≤ 8) : ∀ (d : Nat) (i : Int) (W : List (List Int)) (p : Int), i ≤ d → W.length + d ≤ 3 → (∀ w ∈ W, w.length ≤ 20) → 0 ≤ p → p + 2 * d ≤ 20000 →
    ∃ V, Ev (fun k => spec_DrawFlowOk.l0 k a b R W i s p n E) (n, E, a, b, V) ∧ V.length ≤ 4 ∧ ∀ w ∈ V, w.length ≤ 20
  | 0, i, W, p, hi, hd, hr, hp, hq => by
    obtain ⟨V, hV, h⟩ := z118 (i := i) (R := R) (a := a) (b := b) hs hn (show W.length ≤ 3 by omega) hr p hp (by omega)
    refine ⟨V, Ev.succ ?_, h⟩
    simp only [spec_DrawFlowOk.l0]
    exact Ev.neg (by omega) hV
  | d + 1, i, W, p, hi, hd, hr, hp, hq => by
    obtain ⟨V, hV, h⟩ := z118 (i := i) (R := R) (a := a) (b := b) hs hn (show W.length ≤ 3 by omega) hr p hp (by omega)
    by_cases h0 : i > 0
    · by_cases h1 : (R.length : Int) > 0
      · obtain ⟨v, hv, hv1, _⟩ := ev_pick hs (p := p) ⟨hp, by omega⟩ (R.length : Int) (by omega)
        have hv2 := hv1 (by omega)
        obtain ⟨u, hu, _⟩ := ev_pick hs (p := p + 1) ⟨by omega, by omega⟩ 3 (by omega)
        obtain ⟨j, rfl⟩ : ∃ j : Nat, v = j := ⟨v.toNat, by omega⟩
        have hj : j < R.length := by omega
        have hRj := hl _ (List.getElem_mem hj)
        have hw1 : ∀ w ∈ W ++ [R[j]], w.length ≤ 20 := fun w hw => by
          rcases List.mem_append.1 hw with h | h
          · exact hr w h
          · rw [List.mem_singleton.1 h]; omega
        obtain ⟨V1, k1, q1⟩ := z119 hs hn (a := a) (b := b) hR hl d (i - 1) (W ++ [R[j]]) (p + 1 + 1) (by omega) (by simp; omega) hw1 (by omega) (by omega)
        obtain ⟨V2, k2, q2⟩ := z119 hs hn (a := a) (b := b) hR hl d (i - 1) W (p + 1 + 1) (by omega) (by omega) hr (by omega) (by omega)
        have e0 : rd_L2 R (j : Int) = R[j] := rdL_at _ j hj
        by_cases hu0 : u > 0
        · by_cases ok : FlowOkP n E a b ([] ++ W ++ [R[j]])
          · refine ⟨V1, Ev.succ ?_, q1⟩
            simp only [spec_DrawFlowOk.l0]
            refine Ev.pos h0 (Ev.succ ?_)
            simp only [spec_DrawFlowOk.j1]
            refine Ev.pos (decide_eq_true h1) (Ev.bind hv ?_)
            dsimp only
            rw [e0]
            refine (Ev.pos (by omega) (Ev.pos (by omega) (Ev.bind hu (Ev.pos hu0 (Ev.bind0 rfl (Ev.pos (by simp; omega) (Ev.bind0 rfl (Ev.bind0 rfl (Ev.pos (by simp; omega) ?_)))))))))
            refine Ev.bind (z59 n E a b ([] ++ W ++ [R[j]]) hn.le hn.wf (by simp; omega) (fun w hw => by rw [List.nil_append] at hw; have := hw1 w hw; omega)) ?_
            refine Ev.pos (dec_t ok) (Ev.pos (by omega) ?_)
            rw [w64 (by omega)]
            exact k1
          · refine ⟨V2, Ev.succ ?_, q2⟩
            simp only [spec_DrawFlowOk.l0]
            refine Ev.pos h0 (Ev.succ ?_)
            simp only [spec_DrawFlowOk.j1]
            refine Ev.pos (decide_eq_true h1) (Ev.bind hv ?_)
            dsimp only
            rw [e0]
            refine (Ev.pos (by omega) (Ev.pos (by omega) (Ev.bind hu (Ev.pos hu0 (Ev.bind0 rfl (Ev.pos (by simp; omega) (Ev.bind0 rfl (Ev.bind0 rfl (Ev.pos (by simp; omega) ?_)))))))))
            refine Ev.bind (z59 n E a b ([] ++ W ++ [R[j]]) hn.le hn.wf (by simp; omega) (fun w hw => by rw [List.nil_append] at hw; have := hw1 w hw; omega)) ?_
            refine Ev.neg (by rw [dec_f ok]; simp) ?_
            rw [w64 (by omega)]
            exact k2
        · refine ⟨V1, Ev.succ ?_, q1⟩
          simp only [spec_DrawFlowOk.l0]
          refine Ev.pos h0 (Ev.succ ?_)
          simp only [spec_DrawFlowOk.j1]
          refine Ev.pos (decide_eq_true h1) (Ev.bind hv ?_)
          dsimp only
          rw [e0]
          refine (Ev.pos (by omega) (Ev.pos (by omega) (Ev.bind hu (Ev.neg hu0 (Ev.pos (by omega) ?_)))))
          rw [w64 (by omega)]
          exact k1
      · refine ⟨V, Ev.succ ?_, h⟩
        simp only [spec_DrawFlowOk.l0]
        refine Ev.pos h0 ?_
        rw [decide_eq_false h1]
        exact hV
    · refine ⟨V, Ev.succ ?_, h⟩
      simp only [spec_DrawFlowOk.l0]
      exact Ev.neg h0 hV
theorem z120 (l : List Int) (hl : l.length ≤ maxLen ∧ ∀ x ∈ l, (Lit.int .u8 x).wf = true) : ∃ n E a b W, Ev (fun k => spec_DrawFlowOk.f k l) (n, E, a, b, W) ∧ Small n E ∧ W.length ≤ 4 ∧ ∀ w ∈ W, w.length ≤ 20 := by
  obtain ⟨s, ho, hs⟩ := l6Open l hl
  obtain ⟨n, E, a, b, p, h1, hn, _, _, hp, hq⟩ := z92 hs 0 (by omega) (by omega)
  obtain ⟨w1, w2⟩ := z111 n E a b
  obtain ⟨v, hv, hv1, _⟩ := ev_pick hs (p := p) ⟨hp, by omega⟩ 4 (by omega)
  have hv2 := hv1 (by omega)
  obtain ⟨V, k, q⟩ := z119 hs hn (a := a) (b := b) w1 w2 3 v [] (p + 1) (by omega) (by simp) (by simp) (by omega) (by omega)
  refine ⟨n, E, a, b, V, ?_, hn, q⟩
  simp only [spec_DrawFlowOk.f]
  exact Ev.bind0 ho (Ev.bind h1 (Ev.bind (z112 n E a b hn.le hn.wf) (Ev.bind hv k)))
structure Room (n : Int) (E : List T) (a b v many : Int) (R : Int → Int → Int) : Prop where
  nonneg : ∀ x y, In n x → In n y → 0 ≤ R x y
  pair : ∀ x y, In n x → In n y → R x y + R y x = 2 * cap E x y
  cut : ∀ S : Int → Bool, S a = true → S b = false → cs n R S = cross n E S - many - bi (S v)
theorem Room.start (n : Int) (E : List T) (a b : Int) : Room n E a b b 0 (cap E) :=
  ⟨fun x y _ _ => z68 E x y, fun x y _ _ => by rw [cap_comm E y x]; omega, fun S _ h => by rw [h]; simp [cross, bi]⟩
theorem Room.congr {n : Int} {E : List T} {a b v many : Int} {R Q : Int → Int → Int} (h : Room n E a b v many R) (k : ∀ x y, In n x → In n y → Q x y = R x y) : Room n E a b v many Q :=
  ⟨fun x y hx hy => by rw [k x y hx hy]; exact h.nonneg x y hx hy, fun x y hx hy => by rw [k x y hx hy, k y x hy hx]; exact h.pair x y hx hy, fun S h1 h2 => by rw [cs_congr (Q := R) (fun u v hu hv _ _ => k u v hu hv)]; exact h.cut S h1 h2⟩
theorem Room.le {n : Int} {E : List T} {a b v many : Int} {R : Int → Int → Int} (h : Room n E a b v many R) {x y : Int} (hx : In n x) (hy : In n y) : 0 ≤ R x y ∧ R x y ≤ 2 := by
  have := h.nonneg x y hx hy
  have := h.nonneg y x hy hx
  have := h.pair x y hx hy
  have := cap_le E x y
  omega
theorem Room.step {n : Int} {E : List T} {a b v many : Int} {R Q : Int → Int → Int} (h : Room n E a b v many R) {p : Int} (hp : In n p) (hv : In n v) (hpv : p ≠ v) (h1 : 1 ≤ R p v)
    (k : ∀ x y, In n x → In n y → Q x y = R x y + (if x = p ∧ y = v then -1 else 0) + (if x = v ∧ y = p then 1 else 0)) : Room n E a b p many Q := by
  refine ⟨fun x y hx hy => ?_, fun x y hx hy => ?_, fun S hS hS' => ?_⟩
  · have := h.nonneg x y hx hy
    rw [k x y hx hy]
    by_cases e : x = p ∧ y = v
    · obtain ⟨rfl, rfl⟩ := e
      rw [if_pos ⟨rfl, rfl⟩]
      split <;> omega
    · rw [if_neg e]
      split <;> omega
  · have := h.pair x y hx hy
    rw [k x y hx hy, k y x hy hx]
    by_cases e : x = p ∧ y = v
    · obtain ⟨rfl, rfl⟩ := e
      rw [if_pos ⟨rfl, rfl⟩, if_neg (fun e => hpv e.1), if_neg (fun e => hpv e.2), if_pos ⟨rfl, rfl⟩]; omega
    · by_cases e' : x = v ∧ y = p
      · obtain ⟨rfl, rfl⟩ := e'
        rw [if_neg e, if_pos ⟨rfl, rfl⟩, if_pos ⟨rfl, rfl⟩, if_neg (fun e => hpv e.1)]; omega
      · rw [if_neg e, if_neg e', if_neg (c := y = p ∧ x = v) (fun z => e' ⟨z.2, z.1⟩), if_neg (c := y = v ∧ x = p) (fun z => e ⟨z.2, z.1⟩)]; omega
  · rw [cs_push hp hv k S, h.cut S hS hS']; omega
theorem Room.turn {n : Int} {E : List T} {a b many : Int} {R : Int → Int → Int} (h : Room n E a b a many R) : Room n E a b b (many + 1) R :=
  ⟨h.nonneg, h.pair, fun S h1 h2 => by rw [h.cut S h1 h2, h1, h2]; unfold bi; simp; omega⟩
theorem Room.done {n : Int} {E : List T} {a b many : Int} {R : Int → Int → Int} (h : Room n E a b b many R) {S : Int → Bool} (ha : S a = true) (hb : S b = false) (hc : ∀ x y, In n x → In n y → S x = true → S y = false → R x y ≤ 0) : IsFlow n E a b many := by
  constructor
  · refine ⟨S, ha, hb, ?_⟩
    have := h.cut S ha hb
    rw [cs_zero (fun x y hx hy h1 h2 => by have := hc x y hx hy h1 h2; have := h.nonneg x y hx hy; omega), hb] at this
    simp [bi] at this; omega
  · intro S' h1 h2
    have := h.cut S' h1 h2
    have := z66 (n := n) (R := R) (S := S') (fun x y hx hy _ _ => h.nonneg x y hx hy)
    simp [bi, h2] at *; omega
theorem Room.many_le {n : Int} {E : List T} {a b many : Int} {R : Int → Int → Int} (h : Room n E a b b many R) (h0 : 0 ≤ n) (h8 : n ≤ 8) (hab : a ≠ b) : many ≤ 64 := by
  have h1 : (fun x => x == a) b = false := by simp; exact fun e => hab e.symm
  have := h.cut (fun x => x == a) (by simp) h1
  have := z66 (n := n) (R := R) (S := fun x => x == a) (fun x y hx hy _ _ => h.nonneg x y hx hy)
  have := cross_le h0 h8 E (fun x => x == a)
  simp only [h1, bi] at *
  simp at *
  omega
def Back (n a : Int) (fr : Int → Int) (R : Int → Int → Int) : Int → List Int → Prop
  | v, [] => v = a
  | v, w :: p => w = v ∧ v ≠ a ∧ In n v ∧ In n (fr v) ∧ fr v ≠ v ∧ v ∉ p ∧ 1 ≤ R (fr v) v ∧ Back n a fr R (fr v) p
theorem Back.congr {n a : Int} {fr fr' : Int → Int} {R R' : Int → Int → Int} : ∀ {p : List Int} {v : Int}, Back n a fr R v p → (∀ x ∈ p, fr' x = fr x ∧ R (fr x) x ≤ R' (fr x) x) → Back n a fr' R' v p
  | [], _, h, _ => h
  | w :: p, v, ⟨h1, h2, h3, h4, h5, h6, h7, h8⟩, k => by
    subst h1
    obtain ⟨k1, k2⟩ := k w List.mem_cons_self
    refine ⟨rfl, h2, h3, by rw [k1]; exact h4, by rw [k1]; exact h5, h6, by rw [k1]; omega, ?_⟩
    rw [k1]
    exact h8.congr (fun x hx => k x (List.mem_cons_of_mem _ hx))
def rm (room : List Int) (x y : Int) : Int := room.getD (at2 x y) 0
theorem at2_lt {n x y : Int} (h8 : n ≤ 8) (hx : In n x) (hy : In n y) : at2 x y < 64 := by unfold at2; unfold In at hx hy; omega
theorem at2_inj {n x y u v : Int} (h8 : n ≤ 8) (hx : In n x) (hy : In n y) (hu : In n u) (hv : In n v) : at2 x y = at2 u v ↔ x = u ∧ y = v := by unfold at2; unfold In at hx hy hu hv; omega
theorem rm_set {n x y u v : Int} (h8 : n ≤ 8) (hx : In n x) (hy : In n y) (hu : In n u) (hv : In n v) {room : List Int} (hl : room.length = 64) (c : Int) : rm (room.set (at2 u v) c) x y = if x = u ∧ y = v then c else rm room x y := by
  unfold rm
  simp only [List.getD_eq_getElem?_getD]
  by_cases e : x = u ∧ y = v
  · obtain ⟨rfl, rfl⟩ := e
    rw [if_pos ⟨rfl, rfl⟩, List.getElem?_set_self (by rw [hl]; exact at2_lt h8 hx hy)]; rfl
  · rw [if_neg e, List.getElem?_set_ne (fun k => e ((at2_inj h8 hx hy hu hv).1 k.symm))]
theorem z121 {n : Int} {E : List T} {a b r : Int} (h : OK n E) (hk : ∀ room : List Int, room.length = 64 → (∀ x y, In n x → In n y → rm room x y = cap E x y) → Ev (fun k => impl_Net_flow.l1 k n a b room 0) r) : ∀ (d i : Nat) (room : List Int), i + d = E.length → room.length = 64 → (∀ x y, In n x → In n y → rm room x y = cap (E.take i) x y) →
    Ev (fun k => impl_Net_flow.l0 k E E.length i n a b room) r
  | 0, i, room, hd, hl, hr => by
    refine Ev.succ ?_
    simp only [impl_Net_flow.l0]
    refine Ev.neg (by omega) (hk room hl ?_)
    rwa [List.take_of_length_le (by omega)] at hr
  | d + 1, i, room, hd, hl, hr => by
    have hi : i < E.length := by omega
    have h8 := h.n8
    have hlE := h.length
    have ht := h.tie E[i] (List.getElem_mem hi)
    have h0 : In n E[i].f0 := ⟨by omega, by omega⟩
    have h1 : In n E[i].f1 := ⟨by omega, by omega⟩
    refine Ev.succ ?_
    simp only [impl_Net_flow.l0, rd_T_nat E i hi]
    refine Ev.pos (by omega) (Ev.pos (by omega) (Ev.pos (by omega) (Ev.pos (by omega) (Ev.pos (by omega) (Ev.pos (by omega) (Ev.pos (by omega) ?_))))))
    rw [w64 (by omega)]
    refine z121 h hk d (i + 1) _ (by omega) (by rw [List.length_set, List.length_set]; exact hl) (fun x y hx hy => ?_)
    rw [rm_set h8 hx hy h1 h0 (by rw [List.length_set]; exact hl), rm_set h8 hx hy h0 h1 hl, hr x y hx hy]
    have key : tie x y ∈ E.take (i + 1) ↔ tie x y ∈ E.take i ∨ tie x y = E[i] := by
      rw [← List.take_append_getElem hi, List.mem_append, List.mem_singleton]
    have ke := z24 (a := x) (b := y) (t := E[i]) (by omega)
    unfold cap
    by_cases e1 : x = E[i].f1 ∧ y = E[i].f0
    · rw [if_pos e1, if_pos (key.2 (Or.inr (ke.2 (Or.inr e1))))]
    · rw [if_neg e1]
      by_cases e2 : x = E[i].f0 ∧ y = E[i].f1
      · rw [if_pos e2, if_pos (key.2 (Or.inr (ke.2 (Or.inl e2))))]
      · rw [if_neg e2]
        by_cases m : tie x y ∈ E.take i
        · rw [if_pos m, if_pos (key.2 (Or.inl m))]
        · rw [if_neg m, if_neg (fun k => (key.1 k).elim m (fun k => (ke.1 k).elim e2 e1))]
theorem z122 {n : Int} {a b many r : Int} {room : List Int} (ha : 0 ≤ a) (ha8 : a < 8) (hk : ∀ fr : List Int, fr.length = 8 → (∀ x : Int, 0 ≤ x → x < 8 → rd fr x = if x = a then a else -1) → Ev (fun k => impl_Net_flow.l3 k n a b room many fr [a] 0) r) : ∀ (d j : Nat) (fr : List Int), j + d = 8 → fr.length = 8 → (∀ x : Int, 0 ≤ x → x < j → rd fr x = -1) →
    Ev (fun k => impl_Net_flow.l2 k n a b room many fr j) r
  | 0, j, fr, hd, hl, hr => by
    refine Ev.succ ?_
    simp only [impl_Net_flow.l2]
    refine Ev.neg (by omega) (Ev.pos ha (Ev.pos ha8 (hk _ (by rw [List.length_set]; exact hl) (fun x h0 h1 => ?_))))
    rw [rd_set fr a x a ha (by omega) h0]
    by_cases e : x = a
    · rw [if_pos e, if_pos e]
    · rw [if_neg e, if_neg e]; exact hr x h0 (by omega)
  | d + 1, j, fr, hd, hl, hr => by
    refine Ev.succ ?_
    simp only [impl_Net_flow.l2]
    refine Ev.pos (by omega) (Ev.pos (by omega) ?_)
    rw [w64 (by omega)]
    refine z122 ha ha8 hk d (j + 1) _ (by omega) (by rw [List.length_set]; exact hl) (fun x h0 h1 => ?_)
    rw [rd_set fr j x (-1) (by omega) (by omega) h0]
    by_cases e : x = j
    · rw [if_pos e]
    · rw [if_neg e]; exact hr x h0 (by omega)
structure Bfs (n a : Int) (R : Int → Int → Int) (fr : Int → Int) (q : List Int) : Prop where
  mem : ∀ x, In n x → (0 ≤ fr x ↔ x ∈ q)
  inn : ∀ x ∈ q, In n x
  nodup : q.Nodup
  start : a ∈ q
  back : ∀ x ∈ q, ∃ p : List Int, (∀ y ∈ p, y ∈ q) ∧ Back n a fr R x p
theorem Bfs.length {n a : Int} {R : Int → Int → Int} {fr : Int → Int} {q : List Int} (h : Bfs n a R fr q) (h0 : 0 ≤ n) : (q.length : Int) ≤ n := by
  have : q.length ≤ (ks n).length := by
    have hs : ∀ x ∈ q, x ∈ ks n := fun x hx => mem_ks.2 (h.inn x hx)
    exact List.Nodup.length_le_of_subset h.nodup hs
  rw [z12] at this
  omega
theorem Bfs.more {n a : Int} {R : Int → Int → Int} {fr fr' : Int → Int} {q : List Int} (h : Bfs n a R fr q) {u v : Int} (hu : u ∈ q) (hv : In n v) (hn : ¬ 0 ≤ fr v) (hR : 1 ≤ R u v) (hf : ∀ x, In n x → fr' x = if x = v then u else fr x) : Bfs n a R fr' (q ++ [v]) := by
  have hvq : v ∉ q := fun m => hn ((h.mem v hv).2 m)
  have huv : u ≠ v := fun e => hvq (e ▸ hu)
  have hui := h.inn u hu
  have hfq : ∀ x ∈ q, fr' x = fr x := fun x hx => by rw [hf x (h.inn x hx), if_neg (fun (e : x = v) => hvq (e ▸ hx))]
  refine ⟨fun x hx => ?_, fun x hx => ?_, ?_, List.mem_append_left _ h.start, fun x hx => ?_⟩
  · rw [hf x hx, List.mem_append, List.mem_singleton]
    by_cases e : x = v
    · rw [if_pos e]; exact ⟨fun _ => Or.inr e, fun _ => hui.1⟩
    · rw [if_neg e, h.mem x hx]; exact ⟨Or.inl, fun k => k.resolve_right e⟩
  · rcases List.mem_append.1 hx with m | m
    · exact h.inn x m
    · rw [List.mem_singleton.1 m]; exact hv
  · rw [List.nodup_append]
    refine ⟨h.nodup, by simp, fun x hx y hy => ?_⟩
    rw [List.mem_singleton.1 hy]
    exact fun (e : x = v) => hvq (e ▸ hx)
  · rcases List.mem_append.1 hx with m | m
    · obtain ⟨p, hp, hb⟩ := h.back x m
      exact ⟨p, fun y hy => List.mem_append_left _ (hp y hy), hb.congr (fun y hy => ⟨hfq y (hp y hy), Int.le_refl _⟩)⟩
    · rw [List.mem_singleton.1 m]
      obtain ⟨p, hp, hb⟩ := h.back u hu
      have e : fr' v = u := by rw [hf v hv, if_pos rfl]
      refine ⟨v :: p, fun y hy => ?_, rfl, fun (e : v = a) => hvq (e ▸ h.start), hv, by rw [e]; exact hui, by rw [e]; exact huv, fun m => hvq (hp v m), by rw [e]; exact hR, ?_⟩
      · rcases List.mem_cons.1 hy with rfl | hy
        · exact List.mem_append_right _ (by simp)
        · exact List.mem_append_left _ (hp y hy)
      · rw [e]; exact hb.congr (fun y hy => ⟨hfq y (hp y hy), Int.le_refl _⟩)
def Done (n : Int) (R : Int → Int → Int) (q : List Int) (k : Int) : Prop := ∀ i, 0 ≤ i → i < k → i < q.length → ∀ x, In n x → 0 < R (rd q i) x → x ∈ q
theorem z123 (q l : List Int) {i : Int} (h0 : 0 ≤ i) (h : i < q.length) : rd (q ++ l) i = rd q i := by
  unfold rd
  simp only [List.getD_eq_getElem?_getD]
  rw [List.getElem?_append_left (by omega)]
theorem z124 {n : Int} (h0 : 0 ≤ n) (h8 : n ≤ 8) {a b many r : Int} {room : List Int} (x : Int) (hx0 : 0 ≤ x)
    (hk : ∀ (fr q : List Int), fr.length = 8 → Bfs n a (rm room) (rd fr) q → x < q.length → Done n (rm room) q (x + 1) → Ev (fun k => impl_Net_flow.l3 k n a b room many fr q (x + 1)) r) :
    ∀ (d : Nat) (v : Int) (fr q : List Int), 0 ≤ v → v + d = n → fr.length = 8 → Bfs n a (rm room) (rd fr) q → x < q.length → Done n (rm room) q x → (∀ y, In n y → y < v → 0 < rm room (rd q x) y → y ∈ q) →
    Ev (fun k => impl_Net_flow.l4 k n a b room many fr q x v) r
  | 0, v, fr, q, hv, hd, hl, hb, hxq, hdone, hp => by
    have hlen := hb.length h0
    refine Ev.succ ?_
    simp only [impl_Net_flow.l4]
    rw [w64 (x := x + 1) (by omega)]
    refine Ev.neg (by omega) (hk fr q hl hb hxq (fun i hi0 hi hiq y hy hR => ?_))
    by_cases e : i = x
    · subst e; exact hp y hy (by have := hy.2; omega) hR
    · exact hdone i hi0 (by omega) hiq y hy hR
  | d + 1, v, fr, q, hv, hd, hl, hb, hxq, hdone, hp => by
    have hlen := hb.length h0
    have hvn : In n v := ⟨hv, by omega⟩
    have hu : rd q x ∈ q := (z21 q _).2 ⟨x.toNat, by omega, by omega, by rw [show ((x.toNat : Nat) : Int) = x by omega]⟩
    have hui := hb.inn _ hu
    refine Ev.succ ?_
    simp only [impl_Net_flow.l4]
    rw [w64 (x := v + 1) (by omega)]
    refine Ev.pos (by omega) (Ev.pos hv (Ev.pos (by omega) ?_))
    by_cases hf : rd fr v < 0
    · refine Ev.pos hf (Ev.pos hx0 (Ev.pos hxq (Ev.pos hui.1 (Ev.pos (by have := hui.2; omega) ?_))))
      by_cases hR : room.getD (at2 (rd q x) v) 0 > 0
      · refine Ev.pos hR (Ev.pos (by omega) ?_)
        have hvq : v ∉ q := fun m => by have := (hb.mem v hvn).2 m; omega
        have hb' : Bfs n a (rm room) (rd (fr.set v.toNat (rd q x))) (q ++ [v]) := hb.more hu hvn (by omega) hR (fun y hy => by rw [rd_set fr v y (rd q x) hv (by omega) hy.1])
        refine z124 h0 h8 x hx0 hk d (v + 1) _ _ (by omega) (by omega) (by rw [List.length_set]; exact hl) hb' (by rw [List.length_append]; simp; omega) (fun i hi0 hi hiq y hy hRy => ?_) (fun y hy hyv hRy => ?_)
        · rw [z123 q [v] hi0 (by omega)] at hRy
          exact List.mem_append_left _ (hdone i hi0 hi (by omega) y hy hRy)
        · rw [z123 q [v] hx0 hxq] at hRy
          by_cases e : y = v
          · rw [e]; exact List.mem_append_right _ (by simp)
          · exact List.mem_append_left _ (hp y hy (by omega) hRy)
      · refine Ev.neg hR (z124 h0 h8 x hx0 hk d (v + 1) fr q (by omega) (by omega) hl hb hxq hdone (fun y hy hyv hRy => ?_))
        by_cases e : y = v
        · subst e; exact absurd hRy (by unfold rm; omega)
        · exact hp y hy (by omega) hRy
    · refine Ev.neg hf (z124 h0 h8 x hx0 hk d (v + 1) fr q (by omega) (by omega) hl hb hxq hdone (fun y hy hyv hRy => ?_))
      by_cases e : y = v
      · subst e; exact (hb.mem y hy).1 (by omega)
      · exact hp y hy (by omega) hRy
theorem z125 {n : Int} (h0 : 0 ≤ n) (h8 : n ≤ 8) {a b many r : Int} {room : List Int} (hb : In n b)
    (hend : ∀ (fr q : List Int), fr.length = 8 → Bfs n a (rm room) (rd fr) q → Done n (rm room) q q.length → Ev (fun k => if rd fr b < 0 then some many else impl_Net_flow.l5 k n a b room many fr b) r) :
    ∀ (d : Nat) (x : Int) (fr q : List Int), 0 ≤ x → x + d = 8 → fr.length = 8 → Bfs n a (rm room) (rd fr) q → x ≤ q.length → Done n (rm room) q x → Ev (fun k => impl_Net_flow.l3 k n a b room many fr q x) r
  | d, x, fr, q, hx0, hd, hl, hq, hxq, hdone => by
    have hlen := hq.length h0
    refine Ev.succ ?_
    simp only [impl_Net_flow.l3]
    by_cases hlt : x < q.length
    · refine Ev.pos hlt ?_
      match d, hd with
      | 0, hd => omega
      | d + 1, hd =>
        refine z124 h0 h8 x hx0 (fun fr' q' hl' hq' hxq' hd' => ?_) n.toNat 0 fr q (by omega) (by omega) hl hq hlt hdone (fun y hy hyv => by have := hy.1; omega)
        exact z125 h0 h8 hb hend d (x + 1) fr' q' (by omega) (by omega) hl' hq' (by omega) hd'
    · have e : x = q.length := by omega
      refine Ev.neg hlt (Ev.pos hb.1 (Ev.pos (by have := hb.2; omega) ?_))
      exact hend fr q hl hq (e ▸ hdone)
theorem z126 {n : Int} (h8 : n ≤ 8) {E : List T} {a b many r : Int} {fr : List Int} (hmany : 0 ≤ many ∧ many ≤ 64)
    (hk : ∀ room : List Int, room.length = 64 → Room n E a b a many (rm room) → Ev (fun k => impl_Net_flow.l1 k n a b room (many + 1)) r) :
    ∀ (p : List Int) (v : Int) (room : List Int), room.length = 64 → Room n E a b v many (rm room) → Back n a (rd fr) (rm room) v p → Ev (fun k => impl_Net_flow.l5 k n a b room many fr v) r
  | [], v, room, hl, hR, hB => by
    have e : v = a := hB
    subst e
    refine Ev.succ ?_
    simp only [impl_Net_flow.l5]
    rw [w64 (by omega)]
    exact Ev.pos trivial (hk room hl hR)
  | w :: p, v, room, hl, hR, ⟨e, hva, hv, hp, hpv, hvp, h1, hB⟩ => by
    subst e
    have b1 := hR.le hp hv
    have b2 := hR.le hv hp
    refine Ev.succ ?_
    simp only [impl_Net_flow.l5]
    refine Ev.neg hva (Ev.pos hv.1 (Ev.pos (by have := hv.2; omega) (Ev.pos hp.1 (Ev.pos (by have := hp.2; omega) ?_))))
    have e1 : (room.set (at2 (rd fr w) w) (rm room (rd fr w) w - 1)).getD (at2 w (rd fr w)) 0 = rm room w (rd fr w) := by
      have := rm_set h8 hv hp hp hv hl (rm room (rd fr w) w - 1)
      rw [if_neg (fun e => hpv e.1.symm)] at this
      exact this
    rw [w64 (x := room.getD (at2 (rd fr w) w) 0 - 1) (by unfold rm at b1; omega)]
    rw [show room.getD (at2 (rd fr w) w) 0 = rm room (rd fr w) w from rfl, e1, w64 (by omega)]
    have hQ : ∀ x y, In n x → In n y → rm ((room.set (at2 (rd fr w) w) (rm room (rd fr w) w - 1)).set (at2 w (rd fr w)) (rm room w (rd fr w) + 1)) x y = rm room x y + (if x = rd fr w ∧ y = w then -1 else 0) + (if x = w ∧ y = rd fr w then 1 else 0) := fun x y hx hy => by
      rw [rm_set h8 hx hy hv hp (by rw [List.length_set]; exact hl), rm_set h8 hx hy hp hv hl]
      by_cases k1 : x = w ∧ y = rd fr w
      · rw [if_pos k1, if_pos k1, if_neg (fun k => hpv (k.1.symm.trans k1.1))]
        rw [k1.1, k1.2]; omega
      · rw [if_neg k1, if_neg k1]
        by_cases k2 : x = rd fr w ∧ y = w
        · rw [if_pos k2, if_pos k2, k2.1, k2.2]; omega
        · rw [if_neg k2, if_neg k2]; omega
    refine z126 h8 hmany hk p (rd fr w) _ (by rw [List.length_set, List.length_set]; exact hl) (hR.step hp hv hpv h1 hQ) (hB.congr (fun y hy => ⟨rfl, ?_⟩))
    have hyw : y ≠ w := fun e => hvp (e ▸ hy)
    have hyi : In n y ∧ In n (rd fr y) := by
      clear hQ
      revert hB hy
      generalize rd fr w = z
      intro hB hy
      induction p generalizing z with
      | nil => simp at hy
      | cons c p ih =>
        obtain ⟨e, _, g1, g2, _, g3, _, g4⟩ := hB
        subst e
        rcases List.mem_cons.1 hy with rfl | hy
        · exact ⟨g1, g2⟩
        · exact ih (fun m => hvp (List.mem_cons_of_mem _ m)) (rd fr c) g4 hy
    rw [hQ _ _ hyi.2 hyi.1, if_neg (fun k => hyw k.2)]
    split <;> omega
theorem z127 {n : Int} {E : List T} {a b : Int} (h : OK n E) (ha : In n a) (hb : In n b) (hab : a ≠ b) : ∀ (d : Nat) (many : Int) (room : List Int), 0 ≤ many → many + d = 65 → room.length = 64 → Room n E a b b many (rm room) → Ev (fun k => impl_Net_flow.l1 k n a b room many) (flow n E a b)
  | 0, many, room, hm, hd, hl, hR => by
    have := hR.many_le h.n0 h.n8 hab
    omega
  | d + 1, many, room, hm, hd, hl, hR => by
    have hle := hR.many_le h.n0 h.n8 hab
    refine Ev.succ ?_
    simp only [impl_Net_flow.l1]
    refine z122 ha.1 (by have := ha.2; have := h.n8; omega) (fun fr hfl hfr => ?_) 8 0 _ (by omega) (by simp) (fun x h0 h1 => by omega)
    have hst : Bfs n a (rm room) (rd fr) [a] := by
      refine ⟨fun x hx => ?_, fun x hx => ?_, by simp, by simp, fun x hx => ⟨[], by simp, List.mem_singleton.1 hx⟩⟩
      · rw [hfr x hx.1 (by have := hx.2; have := h.n8; omega), List.mem_singleton]
        by_cases e : x = a
        · rw [if_pos e]; exact ⟨fun _ => e, fun _ => ha.1⟩
        · rw [if_neg e]; exact ⟨fun k => by omega, fun k => absurd k e⟩
      · rw [List.mem_singleton.1 hx]; exact ha
    refine z125 h.n0 h.n8 hb (fun fr1 q hl1 hq hdone => ?_) 8 0 fr [a] (by omega) (by omega) hfl hst (by simp) (fun i h0 h1 => by omega)
    by_cases hf : rd fr1 b < 0
    · refine Ev.pos hf (Ev.some_ (Eq.symm (IsFlow.flow ?_)))
      refine hR.done (S := fun x => decide (0 ≤ rd fr1 x)) (by simpa using (hq.mem a ha).2 hq.start) (by simpa using hf) (fun x y hx hy h1 h2 => ?_)
      have h1 : 0 ≤ rd fr1 x := by simpa using h1
      have h2 : ¬ 0 ≤ rd fr1 y := by simpa using h2
      obtain ⟨i, hi0, hi, e⟩ := (z21 q x).1 ((hq.mem x hx).1 h1)
      by_cases k : 0 < rm room x y
      · exact absurd ((hq.mem y hy).2 (hdone i (by omega) (by omega) (by omega) y hy (by rw [e]; exact k))) h2
      · omega
    · refine Ev.neg hf ?_
      obtain ⟨p, _, hB⟩ := hq.back b ((hq.mem b hb).1 (by omega))
      exact z126 h.n8 ⟨hm, hle⟩ (fun room' hl' hR' => z127 h ha hb hab d (many + 1) room' (by omega) (by omega) hl' hR'.turn) p b room hl hR hB
theorem ev_flow {n : Int} {E : List T} {a b : Int} (h : OK n E) (ha : In n a) (hb : In n b) (hab : a ≠ b) : Ev (fun k => impl_Net_flow.f k n E a b) (flow n E a b) := by
  simp only [impl_Net_flow.f]
  refine z121 h (fun room hl hr => z127 h ha hb hab 65 0 room (by omega) (by omega) hl ((Room.start n E a b).congr hr)) E.length 0 _ (by omega) (by simp) (fun x y hx hy => ?_)
  unfold rm cap
  rw [List.getD_eq_getElem?_getD, List.getElem?_replicate, if_pos (at2_lt h.n8 hx hy), List.take_zero, if_neg (by simp)]
  rfl
structure Tab (n : Int) (go : List (List Int)) : Prop where
  len : go.length = n.toNat
  row : Sq n.toNat go
theorem Tab.upd {n : Int} {go : List (List Int)} (h : Tab n go) (i j : Nat) (v : Int) : Tab n (upd go i j v) := ⟨by unfold F.upd; rw [List.length_set]; exact h.len, h.row.upd i j v⟩
theorem g2_upd {n : Int} {go : List (List Int)} (h : Tab n go) {x y u v : Int} (hx : In n x) (hy : In n y) (hu : In n u) (hv : In n v) (c : Int) : g2 (upd go u.toNat v.toNat c) x y = if x = u ∧ y = v then c else g2 go x y := by
  unfold In at hx hy hu hv
  have hl := h.len
  have hr := h.row u.toNat (by omega)
  unfold g2 upd
  by_cases e : x = u
  · subst e
    have e1 : (go.set x.toNat ((go.getD x.toNat []).set v.toNat c)).getD x.toNat [] = (go.getD x.toNat []).set v.toNat c := by
      rw [List.getD_eq_getElem?_getD, List.getElem?_set_self (by omega), Option.getD_some]
    rw [e1]
    by_cases e2 : y = v
    · subst e2
      rw [if_pos ⟨rfl, rfl⟩, List.getD_eq_getElem?_getD, List.getElem?_set_self (by omega), Option.getD_some]
    · rw [if_neg (fun k => e2 k.2), List.getD_eq_getElem?_getD, List.getElem?_set_ne (by omega), List.getD_eq_getElem?_getD (l := go.getD x.toNat [])]
  · rw [if_neg (fun k => e k.1)]
    have e1 : (go.set u.toNat ((go.getD u.toNat []).set v.toNat c)).getD x.toNat [] = go.getD x.toNat [] := by
      rw [List.getD_eq_getElem?_getD, List.getElem?_set_ne (by omega), List.getD_eq_getElem?_getD]
    rw [e1]
def left (E : List T) (go : List (List Int)) (x y : Int) : Int := cap E x y - g2 go x y
theorem left_pos {n : Int} {E : List T} {a b v many : Int} {go : List (List Int)} (h : Room n E a b v many (left E go)) {x y : Int} (hx : In n x) (hy : In n y) : 0 < left E go x y ↔ Has E x y ∧ g2 go x y < 1 := by
  have h1 := h.nonneg x y hx hy
  have h2 := h.nonneg y x hy hx
  have h3 := h.pair x y hx hy
  unfold left cap at *
  by_cases m : tie x y ∈ E
  · rw [if_pos m] at *
    exact ⟨fun k => ⟨m, by omega⟩, fun k => by omega⟩
  · rw [if_neg m] at *
    exact ⟨fun k => by omega, fun k => absurd k.1 m⟩
theorem Back.inn {n a : Int} {fr : Int → Int} {R : Int → Int → Int} : ∀ {p : List Int} {v : Int}, Back n a fr R v p → ∀ y ∈ p, In n y ∧ In n (fr y)
  | [], _, _, y, hy => by simp at hy
  | c :: p, v, ⟨e, _, g1, g2, _, _, _, g4⟩, y, hy => by
    subst e
    rcases List.mem_cons.1 hy with rfl | hy
    · exact ⟨g1, g2⟩
    · exact g4.inn y hy
theorem z128 {n : Int} (h8 : n ≤ 8) {E : List T} {a b : Int} {go : List (List Int)} {r : Bool × List (List Int)} (ha : In n a) (hk : ∀ fr : List Int, (fr.length : Int) = n → (∀ x : Int, In n x → rd fr x = if x = a then a else -1) → Ev (fun k => spec_more.l1 k n E a b go fr [a]) r) :
    ∀ (d : Nat) (x : Int) (fr : List Int), 0 ≤ x → x + d = n → (fr.length : Int) = x → (∀ y : Int, 0 ≤ y → y < x → rd fr y = -1) → Ev (fun k => spec_more.l0 k n E a b go fr x) r
  | 0, x, fr, h0, hd, hl, hr => by
    refine Ev.succ ?_
    simp only [spec_more.l0]
    refine Ev.neg (by omega) (Ev.pos ha.1 (Ev.pos (by have := ha.2; omega) (hk _ (by rw [List.length_set]; omega) (fun y hy => ?_))))
    have := ha.2
    have := hy.2
    rw [rd_set fr a y a ha.1 (by omega) hy.1]
    by_cases e : y = a
    · rw [if_pos e, if_pos e]
    · rw [if_neg e, if_neg e]; exact hr y hy.1 (by omega)
  | d + 1, x, fr, h0, hd, hl, hr => by
    refine Ev.succ ?_
    simp only [spec_more.l0]
    refine Ev.pos (by omega) (Ev.pos (by omega) ?_)
    rw [w64 (by omega)]
    refine z128 h8 ha hk d (x + 1) _ (by omega) (by omega) (by simp; omega) (fun y hy0 hy => ?_)
    unfold rd
    rw [List.getD_eq_getElem?_getD]
    by_cases e : y < x
    · rw [List.getElem?_append_left (by omega), ← List.getD_eq_getElem?_getD]
      exact hr y hy0 e
    · rw [List.getElem?_append_right (by omega), show y.toNat - fr.length = 0 by omega]; rfl
theorem z129 {n : Int} (h8 : n ≤ 8) {E : List T} {a b many : Int} {fr : List Int} (hl : (fr.length : Int) = n) :
    ∀ (p : List Int) (v : Int) (go : List (List Int)), Tab n go → Room n E a b v many (left E go) → Back n a (rd fr) (left E go) v p → ∃ go', Ev (fun k => spec_more.l3 k n E a b go fr v) (true, go') ∧ Tab n go' ∧ Room n E a b a many (left E go')
  | [], v, go, ht, hR, hB => by
    have e : v = a := hB
    subst e
    refine ⟨go, Ev.succ ?_, ht, hR⟩
    simp only [spec_more.l3]
    exact Ev.pos trivial (Ev.now _)
  | w :: p, v, go, ht, hR, hBB => by
    have hinn := Back.inn hBB
    obtain ⟨e, hva, hv, hp, hpv, hvp, h1, hB⟩ := hBB
    subst e
    have b1 := hR.le hp hv
    have b2 := hR.le hv hp
    have c1 := z68 E (rd fr w) w
    have c2 := cap_le E (rd fr w) w
    have c3 := z68 E w (rd fr w)
    have c4 := cap_le E w (rd fr w)
    have e1 : g2 (upd go (rd fr w).toNat w.toNat (g2 go (rd fr w) w + 1)) w (rd fr w) = g2 go w (rd fr w) := by
      rw [g2_upd ht hv hp hp hv, if_neg (fun k => hpv k.1.symm)]
    have hQ : ∀ x y, In n x → In n y → left E (upd (upd go (rd fr w).toNat w.toNat (g2 go (rd fr w) w + 1)) w.toNat (rd fr w).toNat (g2 go w (rd fr w) - 1)) x y = left E go x y + (if x = rd fr w ∧ y = w then -1 else 0) + (if x = w ∧ y = rd fr w then 1 else 0) := fun x y hx hy => by
      unfold left
      rw [g2_upd (ht.upd _ _ _) hx hy hv hp, g2_upd ht hx hy hp hv]
      by_cases k1 : x = w ∧ y = rd fr w
      · rw [if_pos k1, if_pos k1, if_neg (fun k => hpv (k.1.symm.trans k1.1))]
        rw [k1.1, k1.2]; omega
      · rw [if_neg k1, if_neg k1]
        by_cases k2 : x = rd fr w ∧ y = w
        · rw [if_pos k2, if_pos k2, k2.1, k2.2]; omega
        · rw [if_neg k2, if_neg k2]; omega
    obtain ⟨go', hgo, ht', hR'⟩ := z129 h8 (b := b) hl p (rd fr w) _ ((ht.upd (rd fr w).toNat w.toNat (g2 go (rd fr w) w + 1)).upd w.toNat (rd fr w).toNat (g2 go w (rd fr w) - 1)) (hR.step hp hv hpv h1 hQ) (hB.congr (fun y hy => ⟨rfl, by
      have hyw : y ≠ w := fun e => hvp (e ▸ hy)
      have hyi := hinn y (List.mem_cons_of_mem _ hy)
      rw [hQ _ _ hyi.2 hyi.1, if_neg (fun k => hyw k.2)]
      split <;> omega⟩))
    refine ⟨go', Ev.succ ?_, ht', hR'⟩
    simp only [spec_more.l3]
    unfold left at b1 b2
    refine Ev.neg hva (Ev.pos hv.1 (Ev.pos (by have := hv.2; omega) (Ev.pos hv.2 (Ev.pos hp.1 (Ev.pos hp.2 ?_)))))
    rw [w64 (x := g2 go (rd fr w) w + 1) (by omega), e1, w64 (by omega)]
    exact hgo
def Led (n : Int) (R : Int → Int → Int) (pre q : List Int) : Prop := ∀ u ∈ pre, ∀ x, In n x → 0 < R u x → x ∈ q
structure L1 (n : Int) (E : List T) (a b : Int) (go : List (List Int)) (fr pre row : List Int) : Prop where
  len : (fr.length : Int) = n
  bfs : Bfs n a (left E go) (rd fr) (pre ++ row)
  led : Led n (left E go) pre (pre ++ row)
  seen : 0 ≤ rd fr b → b ∈ row
theorem z130 {n : Int} {E : List T} (h : OK n E) {a b many : Int} {go : List (List Int)} (hR : Room n E a b b many (left E go)) (hbi : In n b) (at_ : Int) (pre : List Int) :
    ∀ (d : Nat) (x : Int) (fr row : List Int), 0 ≤ x → x + d = n → (fr.length : Int) = n → Bfs n a (left E go) (rd fr) (pre ++ at_ :: row) → Led n (left E go) pre (pre ++ at_ :: row) → (∀ y, In n y → y < x → 0 < left E go at_ y → y ∈ pre ++ at_ :: row) → (0 ≤ rd fr b → b ∈ row) →
    ∃ fr' row' : List Int, L1 n E a b go fr' (pre ++ [at_]) row' ∧ ∀ r, Ev (fun k => spec_more.l1 k n E a b go fr' row') r → Ev (fun k => spec_more.l2 k n E a b go fr row at_ x) r
  | 0, x, fr, row, h0, hd, hl, hq, hL, hp, hb => by
    have e : (pre ++ [at_]) ++ row = pre ++ at_ :: row := by simp
    refine ⟨fr, row, ⟨hl, by rw [e]; exact hq, fun u hu y hy hRy => ?_, hb⟩, fun r hr => Ev.succ ?_⟩
    · rw [e]
      rcases List.mem_append.1 hu with m | m
      · exact hL u m y hy hRy
      · rw [List.mem_singleton.1 m] at hRy
        exact hp y hy (by have := hy.2; omega) hRy
    · simp only [spec_more.l2]
      exact Ev.neg (by omega) hr
  | d + 1, x, fr, row, h0, hd, hl, hq, hL, hp, hb => by
    have h8 := h.n8
    have hlE := h.length
    have hqlen := hq.length h.n0
    have hxn : In n x := ⟨h0, by omega⟩
    have hat : at_ ∈ pre ++ at_ :: row := by simp
    have hai := hq.inn _ hat
    have hlp := left_pos hR hai hxn
    have hnext : ¬ (rd fr x < 0 ∧ 0 < left E go at_ x) → ∃ fr' row' : List Int, L1 n E a b go fr' (pre ++ [at_]) row' ∧ ∀ r, Ev (fun k => spec_more.l1 k n E a b go fr' row') r → Ev (fun k => spec_more.l2 k n E a b go fr row at_ (x + 1)) r := fun hno => by
      refine z130 h hR hbi at_ pre d (x + 1) fr row (by omega) (by omega) hl hq hL (fun y hy hyx hRy => ?_) hb
      by_cases e : y = x
      · subst e
        exact (hq.mem y hy).1 (by omega)
      · exact hp y hy (by omega) hRy
    by_cases hf : rd fr x < 0
    · by_cases hh : Has E at_ x
      · by_cases hg : g2 go at_ x < 1
        · have hrow : row.length ≤ 8 := by
            simp only [List.length_append, List.length_cons] at hqlen
            omega
          have hpos := hlp.2 ⟨hh, hg⟩
          have e : pre ++ at_ :: row ++ [x] = pre ++ at_ :: (row ++ [x]) := by simp
          have hq' := hq.more (fr' := rd (fr.set x.toNat at_)) hat hxn (by omega) (by omega) (fun y hy => by rw [rd_set fr x y at_ h0 (by omega) hy.1])
          rw [e] at hq'
          have up : ∀ y, y ∈ pre ++ at_ :: row → y ∈ pre ++ at_ :: (row ++ [x]) := fun y hy => by rw [← e]; exact List.mem_append_left _ hy
          obtain ⟨fr', row', hi, hk⟩ := z130 h hR hbi at_ pre d (x + 1) (fr.set x.toNat at_) (row ++ [x]) (by omega) (by omega) (by rw [List.length_set]; exact hl) hq' (fun u hu y hy hRy => up y (hL u hu y hy hRy)) (fun y hy hyx hRy => by
            by_cases e2 : y = x
            · rw [e2]; simp
            · exact up y (hp y hy (by omega) hRy)) (fun hbb => by
            by_cases e2 : b = x
            · rw [e2]; simp
            · rw [rd_set fr x b at_ h0 (by omega) hbi.1, if_neg e2] at hbb
              exact List.mem_append_left _ (hb hbb))
          refine ⟨fr', row', hi, fun r hr => Ev.succ ?_⟩
          simp only [spec_more.l2]
          rw [w64 (x := x + 1) (by omega)]
          exact Ev.pos hxn.2 (Ev.pos h0 (Ev.pos (by omega) (Ev.pos hf (Ev.bind (ev_l1Has n E at_ x (by omega)) (Ev.pos (dec_t hh) (Ev.pos hai.1 (Ev.pos hai.2 (Ev.pos hg (Ev.pos (by omega) (hk r hr))))))))))
        · obtain ⟨fr', row', hi, hk⟩ := hnext (fun k => hg (hlp.1 k.2).2)
          refine ⟨fr', row', hi, fun r hr => Ev.succ ?_⟩
          simp only [spec_more.l2]
          rw [w64 (x := x + 1) (by omega)]
          exact Ev.pos hxn.2 (Ev.pos h0 (Ev.pos (by omega) (Ev.pos hf (Ev.bind (ev_l1Has n E at_ x (by omega)) (Ev.pos (dec_t hh) (Ev.pos hai.1 (Ev.pos hai.2 (Ev.neg hg (hk r hr)))))))))
      · obtain ⟨fr', row', hi, hk⟩ := hnext (fun k => hh (hlp.1 k.2).1)
        refine ⟨fr', row', hi, fun r hr => Ev.succ ?_⟩
        simp only [spec_more.l2]
        rw [w64 (x := x + 1) (by omega)]
        exact Ev.pos hxn.2 (Ev.pos h0 (Ev.pos (by omega) (Ev.pos hf (Ev.bind (ev_l1Has n E at_ x (by omega)) (Ev.neg (by rw [dec_f hh]; simp) (hk r hr))))))
    · obtain ⟨fr', row', hi, hk⟩ := hnext (fun k => hf k.1)
      refine ⟨fr', row', hi, fun r hr => Ev.succ ?_⟩
      simp only [spec_more.l2]
      rw [w64 (x := x + 1) (by omega)]
      exact Ev.pos hxn.2 (Ev.pos h0 (Ev.pos (by omega) (Ev.neg hf (hk r hr))))
def More (n : Int) (E : List T) (a b many : Int) (t : Bool × List (List Int)) : Prop := Tab n t.2 ∧ (t.1 = true ∧ Room n E a b a many (left E t.2) ∨ t.1 = false ∧ IsFlow n E a b many)
theorem z131 {n : Int} {E : List T} (h : OK n E) {a b many : Int} {go : List (List Int)} (ht : Tab n go) (hR : Room n E a b b many (left E go)) (ha : In n a) (hb : In n b) : ∀ (d : Nat) (fr pre row : List Int), pre.length + d = 9 → L1 n E a b go fr pre row → ∃ t, Ev (fun k => spec_more.l1 k n E a b go fr row) t ∧ More n E a b many t
  | d, fr, pre, [], hd, hi => by
    have hbn : rd fr b < 0 := by
      by_cases k : 0 ≤ rd fr b
      · have := hi.seen k; simp at this
      · omega
    have hbl := hb.2
    have hfl := hi.len
    refine ⟨(false, go), Ev.succ ?_, ht, Or.inr ⟨rfl, ?_⟩⟩
    · simp only [spec_more.l1]
      exact Ev.pos hb.1 (Ev.pos (by omega) (Ev.neg (by simp) (Ev.pos hbn (Ev.now _))))
    · have hq := hi.bfs
      have hL := hi.led
      rw [List.append_nil] at hq hL
      refine hR.done (S := fun x => decide (0 ≤ rd fr x)) (by simpa using (hq.mem a ha).2 hq.start) (by simpa using hbn) (fun x y hx hy h1 h2 => ?_)
      have h1 : 0 ≤ rd fr x := by simpa using h1
      have h2 : ¬ 0 ≤ rd fr y := by simpa using h2
      by_cases k : 0 < left E go x y
      · exact absurd ((hq.mem y hy).2 (hL x ((hq.mem x hx).1 h1) y hy k)) h2
      · omega
  | d, fr, pre, at_ :: row, hd, hi => by
    have hbl := hb.2
    have hfl := hi.len
    have h8 := h.n8
    have hql := hi.bfs.length h.n0
    simp only [List.length_append, List.length_cons] at hql
    by_cases hf : rd fr b < 0
    · obtain ⟨fr', row', hi', hk⟩ := z130 h hR hb at_ pre n.toNat 0 fr row (by omega) (by have := h.n0; omega) hfl hi.bfs hi.led (fun y hy hy0 => by have := hy.1; omega) (fun k => by omega)
      match d, hd with
      | 0, hd => omega
      | d + 1, hd =>
        obtain ⟨t, hev, hm⟩ := z131 h ht hR ha hb d fr' (pre ++ [at_]) row' (by rw [List.length_append]; simp; omega) hi'
        refine ⟨t, Ev.succ ?_, hm⟩
        simp only [spec_more.l1]
        exact Ev.pos hb.1 (Ev.pos (by omega) (Ev.pos (by simp) (Ev.pos hf (hk t hev))))
    · obtain ⟨p, _, hB⟩ := hi.bfs.back b ((hi.bfs.mem b hb).1 (by omega))
      obtain ⟨go', hev, ht', hR'⟩ := z129 h8 hfl p b go ht hR hB
      refine ⟨(true, go'), Ev.succ ?_, ht', Or.inl ⟨rfl, hR'⟩⟩
      simp only [spec_more.l1]
      exact Ev.pos hb.1 (Ev.pos (by omega) (Ev.pos (by simp) (Ev.neg hf hev)))
theorem ev_more {n : Int} {E : List T} (h : OK n E) {a b many : Int} {go : List (List Int)} (ht : Tab n go) (hR : Room n E a b b many (left E go)) (ha : In n a) (hb : In n b) (hab : a ≠ b) : ∃ t, Ev (fun k => spec_more.f k n E a b go) t ∧ More n E a b many t := by
  have h8 := h.n8
  have h0 := h.n0
  have key : ∃ fr : List Int, (fr.length : Int) = n ∧ (∀ x : Int, In n x → rd fr x = if x = a then a else -1) ∧ ∀ r, Ev (fun k => spec_more.l1 k n E a b go fr [a]) r → Ev (fun k => spec_more.f k n E a b go) r := by
    refine ⟨(List.replicate n.toNat (-1)).set a.toNat a, by rw [List.length_set, List.length_replicate]; omega, fun x hx => ?_, fun r hr => ?_⟩
    · have := hx.2
      have := ha.2
      rw [rd_set _ a x a ha.1 (by rw [List.length_replicate]; omega) hx.1]
      by_cases e : x = a
      · rw [if_pos e, if_pos e]
      · rw [if_neg e, if_neg e]
        unfold rd
        have := hx.1
        rw [List.getD_eq_getElem?_getD, List.getElem?_replicate, if_pos (by omega)]; rfl
    · simp only [spec_more.f]
      refine z128 h8 ha (fun fr hfl hfr => ?_) n.toNat 0 [] (by omega) (by omega) (by simp) (fun y h1 h2 => by omega)
      have e : fr = (List.replicate n.toNat (-1)).set a.toNat a := by
        refine ext_rd (by rw [List.length_set, List.length_replicate]; omega) (fun x h1 h2 => ?_)
        have := ha.2
        rw [hfr x ⟨h1, by omega⟩, rd_set _ a x a ha.1 (by rw [List.length_replicate]; omega) h1]
        by_cases e : x = a
        · rw [if_pos e, if_pos e]
        · rw [if_neg e, if_neg e]
          unfold rd
          rw [List.getD_eq_getElem?_getD, List.getElem?_replicate, if_pos (by omega)]; rfl
      rw [e]; exact hr
  obtain ⟨fr, hfl, hfr, hk⟩ := key
  have hst : Bfs n a (left E go) (rd fr) [a] := by
    refine ⟨fun x hx => ?_, fun x hx => ?_, by simp, by simp, fun x hx => ⟨[], by simp, List.mem_singleton.1 hx⟩⟩
    · rw [hfr x hx, List.mem_singleton]
      by_cases e : x = a
      · rw [if_pos e]; exact ⟨fun _ => e, fun _ => ha.1⟩
      · rw [if_neg e]; exact ⟨fun k => by omega, fun k => absurd k e⟩
    · rw [List.mem_singleton.1 hx]; exact ha
  obtain ⟨t, hev, hm⟩ := z131 h ht hR ha hb 9 fr [] [a] (by simp) ⟨hfl, hst, fun u hu => by simp at hu, fun k => by rw [hfr b hb, if_neg (fun e => hab e.symm)] at k; omega⟩
  exact ⟨t, hk t hev, hm⟩
theorem z132 {n : Int} {E : List T} (h : OK n E) {a b : Int} (ha : In n a) (hb : In n b) (hab : a ≠ b) : ∀ (d : Nat) (many : Int) (go : List (List Int)), 0 ≤ many → many + d = 65 → Tab n go → Room n E a b b many (left E go) → Ev (fun k => spec_FlowCount.l1 k n E a b go many) (flow n E a b)
  | d, many, go, hm, hd, ht, hR => by
    have hle := hR.many_le h.n0 h.n8 hab
    obtain ⟨⟨t, go'⟩, hev, ht', hcase⟩ := ev_more h ht hR ha hb hab
    refine Ev.succ ?_
    simp only [spec_FlowCount.l1]
    refine Ev.bind hev ?_
    dsimp only
    rcases hcase with ⟨e, hR'⟩ | ⟨e, hF⟩
    · refine Ev.pos e ?_
      rw [w64 (by omega)]
      match d, hd with
      | 0, hd => omega
      | d + 1, hd => exact z132 h ha hb hab d (many + 1) go' (by omega) (by omega) ht' hR'.turn
    · exact Ev.neg (by dsimp only at e; rw [e]; simp) (Ev.some_ hF.flow.symm)
theorem z133 {n : Int} {E : List T} (h : OK n E) {a b : Int} (ha : In n a) (hb : In n b) (hab : a ≠ b) : ∀ (d : Nat) (x : Int) (go : List (List Int)), 0 ≤ x → x + d = n → go = List.replicate x.toNat (List.replicate n.toNat 0) → Ev (fun k => spec_FlowCount.l0 k n E a b go x) (flow n E a b)
  | 0, x, go, h0, hd, hg => by
    have hn := ha.1
    have hn2 := ha.2
    have e : x = n := by omega
    subst e
    refine Ev.succ ?_
    simp only [spec_FlowCount.l0]
    refine Ev.neg (by omega) (Ev.pos (by omega) (Ev.pos (by rw [hg, List.length_replicate]; omega) ?_))
    refine z132 h ha hb hab 65 0 go (by omega) (by omega) ⟨by rw [hg, List.length_replicate], fun i hi => ?_⟩ ((Room.start x E a b).congr (fun y z hy hz => ?_))
    · rw [hg, List.getD_eq_getElem?_getD, List.getElem?_replicate, if_pos hi, Option.getD_some, List.length_replicate]
    · have := hy.1
      have := hy.2
      have := hz.1
      have := hz.2
      unfold left g2
      have e1 : go.getD y.toNat [] = List.replicate x.toNat 0 := by
        rw [hg, List.getD_eq_getElem?_getD, List.getElem?_replicate, if_pos (by omega), Option.getD_some]
      rw [e1, List.getD_eq_getElem?_getD, List.getElem?_replicate, if_pos (by omega), Option.getD_some]
      omega
  | d + 1, x, go, h0, hd, hg => by
    have hn := ha.1
    have hn2 := ha.2
    have h8 := h.n8
    refine Ev.succ ?_
    simp only [spec_FlowCount.l0]
    refine Ev.pos (by omega) (Ev.pos (by omega) (Ev.pos (by omega) (Ev.pos (by rw [hg, List.length_replicate]; omega) ?_)))
    rw [w64 (by omega)]
    refine z133 h ha hb hab d (x + 1) _ (by omega) (by omega) ?_
    rw [hg, show (x + 1).toNat = x.toNat + 1 by omega, List.replicate_succ']
noncomputable def z134 (n : Int) (E : List T) (a b : Int) : Int := @ite _ (Two2 n E a b) (Classical.propDecidable _) (flow n E a b) (-1)
theorem z135 {n : Int} {E : List T} {a b : Int} (h : Two2 n E a b) : z134 n E a b = flow n E a b := by unfold z134; rw [if_pos h]
theorem z136 {n : Int} {E : List T} {a b : Int} (h : ¬ Two2 n E a b) : z134 n E a b = -1 := by unfold z134; rw [if_neg h]
theorem z137 (n : Int) (E : List T) (a b : Int) (hE : E.length ≤ 1048576) (hw : WF E) : Ev (fun k => spec_FlowCount.f k n E a b) (z134 n E a b) := by
  simp only [spec_FlowCount.f]
  refine Ev.bind (z10 n E a hE hw) ?_
  by_cases h1 : OK n E ∧ In n a
  · refine Ev.pos (dec_t h1) (Ev.bind (z10 n E b hE hw) ?_)
    by_cases h2 : OK n E ∧ In n b
    · refine Ev.pos (dec_t h2) ?_
      by_cases h3 : a = b
      · refine Ev.pos h3 (Ev.some_ (z136 (fun k => k.2.2.2 h3)).symm)
      · refine Ev.neg h3 ?_
        rw [z135 ⟨h1.1, h1.2, h2.2, h3⟩]
        exact z133 h1.1 h1.2 h2.2 h3 n.toNat 0 [] (by omega) (by have := h1.1.n0; omega) rfl
    · exact Ev.neg (by rw [dec_f h2]; simp) (Ev.some_ (z136 (fun k => h2 ⟨k.1, k.2.2.1⟩)).symm)
  · exact Ev.neg (by rw [dec_f h1]; simp) (Ev.some_ (z136 (fun k => h1 ⟨k.1, k.2.1⟩)).symm)
theorem z138 (E : List T) (x : T) (X : List T) : less E (· ∈ x :: X) = less (less E (· = x)) (· ∈ X) := by
  rw [z27]
  exact z25 (fun t _ => by rw [List.mem_cons])
theorem z139 {n : Int} (S : Int → Bool) : ∀ (X : List T) {E : List T}, OK n E → cross n E S ≤ cross n (less E (· ∈ X)) S + X.length
  | [], E, _ => by rw [z26 (by simp)]; simp
  | x :: X, E, h => by
    rw [z138]
    have ih := z139 S X (h.less (· = x))
    have : cross n E S ≤ cross n (less E (· = x)) S + 1 := by
      by_cases hx : x ∈ E
      · rw [z70 h hx S]; split <;> omega
      · rw [z26 (fun t ht (e : t = x) => hx (e ▸ ht))]; omega
    simp only [List.length_cons]; omega
noncomputable def greedy (n a b : Int) : List T → List T → Int → List T
  | [], _, _ => []
  | t :: l, rest, need => @ite _ (0 < need ∧ flow n (less rest (· = t)) a b < need) (Classical.propDecidable _) (t :: greedy n a b l (less rest (· = t)) (need - 1)) (greedy n a b l rest need)
theorem z140 {n a b : Int} {t : T} {l rest : List T} {need : Int} (h : 0 < need ∧ flow n (less rest (· = t)) a b < need) : greedy n a b (t :: l) rest need = t :: greedy n a b l (less rest (· = t)) (need - 1) := by
  rw [greedy, if_pos h]
theorem z141 {n a b : Int} {t : T} {l rest : List T} {need : Int} (h : ¬ (0 < need ∧ flow n (less rest (· = t)) a b < need)) : greedy n a b (t :: l) rest need = greedy n a b l rest need := by
  rw [greedy, if_neg h]
theorem z142 {n a b : Int} : ∀ (l rest : List T) {need : Int}, need ≤ 0 → greedy n a b l rest need = []
  | [], _, _, _ => by rw [greedy]
  | t :: l, rest, need, h => by rw [z141 (fun k => by omega), z142 l rest h]
theorem z143 {n a b : Int} : ∀ (l rest : List T) (need : Int), (greedy n a b l rest need).Sublist l
  | [], _, _ => by rw [greedy]; exact List.Sublist.refl _
  | t :: l, rest, need => by
    by_cases h : 0 < need ∧ flow n (less rest (· = t)) a b < need
    · rw [z140 h]; exact (z143 l _ _).cons_cons t
    · rw [z141 h]; exact (z143 l _ _).cons t
theorem z144 {l rest : List T} {t : T} (hl : ∀ x ∈ t :: l, x ∈ rest) (hn : (t :: l).Nodup) : ∀ x ∈ l, x ∈ less rest (· = t) := fun x hx =>
  mem_less.2 ⟨hl x (List.mem_cons_of_mem _ hx), fun (e : x = t) => (List.nodup_cons.1 hn).1 (e ▸ hx)⟩
theorem z145 {n a b : Int} (hab : a ≠ b) : ∀ (l rest : List T), OK n rest → l.Nodup → (∀ x ∈ l, x ∈ rest) → flow n (less rest (· ∈ greedy n a b l rest (flow n rest a b))) a b = flow n rest a b - (greedy n a b l rest (flow n rest a b)).length
  | [], rest, _, _, _ => by rw [greedy, z26 (by simp)]; simp
  | t :: l, rest, h, hn, hl => by
    by_cases k : 0 < flow n rest a b ∧ flow n (less rest (· = t)) a b < flow n rest a b
    · rw [z140 k, z138]
      have hf := z74 h (hl t List.mem_cons_self) hab
      have e : flow n rest a b - 1 = flow n (less rest (· = t)) a b := by omega
      rw [e, z145 hab l _ (h.less _) (List.nodup_cons.1 hn).2 (z144 hl hn)]
      simp only [List.length_cons]; omega
    · rw [z141 k]
      exact z145 hab l rest h (List.nodup_cons.1 hn).2 (fun x hx => hl x (List.mem_cons_of_mem _ hx))
theorem z146 {n a b : Int} (hab : a ≠ b) {S : Int → Bool} (h1 : S a = true) (h2 : S b = false) : ∀ (l rest : List T), OK n rest → l.Nodup → (∀ x ∈ l, x ∈ rest) → 0 < flow n (less rest (· ∈ greedy n a b l rest (flow n rest a b))) a b →
    cross n (less rest (· ∈ greedy n a b l rest (flow n rest a b))) S = flow n (less rest (· ∈ greedy n a b l rest (flow n rest a b))) a b → ∀ t ∈ l, t ∉ greedy n a b l rest (flow n rest a b) → S t.f0 = S t.f1
  | [], rest, _, _, _, _, _, t, ht, _ => by simp at ht
  | s :: l, rest, h, hn, hl, hpos, hS, t, ht, hx => by
    by_cases k : 0 < flow n rest a b ∧ flow n (less rest (· = s)) a b < flow n rest a b
    · rw [z140 k] at hx hpos hS
      rw [z138] at hpos hS
      have hf := z74 h (hl s List.mem_cons_self) hab
      have e : flow n rest a b - 1 = flow n (less rest (· = s)) a b := by omega
      rw [e] at hx hpos hS
      rcases List.mem_cons.1 ht with rfl | ht
      · exact absurd List.mem_cons_self hx
      · exact z146 hab h1 h2 l _ (h.less _) (List.nodup_cons.1 hn).2 (z144 hl hn) hpos hS t ht (fun m => hx (List.mem_cons_of_mem _ m))
    · have hl' : ∀ x ∈ l, x ∈ rest := fun x hx => hl x (List.mem_cons_of_mem _ hx)
      have hn' := (List.nodup_cons.1 hn).2
      rw [z141 k] at hx hpos hS
      rcases List.mem_cons.1 ht with rfl | ht
      · have g := z145 hab l rest h hn' hl'
        have c := z139 S (greedy n a b l rest (flow n rest a b)) h
        have d := z70 h (hl t List.mem_cons_self) S
        have m := (flow_is n (less rest (· = t)) hab).least S h1 h2
        by_cases e : S t.f0 = S t.f1
        · exact e
        · rw [if_neg e] at d
          exact absurd ⟨by omega, by omega⟩ k
      · exact z146 hab h1 h2 l rest h hn' hl' hpos hS t ht hx
noncomputable def flowCut (n : Int) (E : List T) (a b : Int) : List T := greedy n a b E E (flow n E a b)
theorem z147 (n : Int) (E : List T) (a b : Int) : (flowCut n E a b).Sublist E := z143 _ _ _
theorem z148 {n : Int} {E : List T} (h : OK n E) {a b : Int} (hab : a ≠ b) : flow n (less E (· ∈ flowCut n E a b)) a b = 0 := by
  have h0 := z73 n (less E (· ∈ flowCut n E a b)) hab
  by_cases hp : 0 < flow n (less E (· ∈ flowCut n E a b)) a b
  · obtain ⟨S, h1, h2, h3⟩ := (flow_is n (less E (· ∈ flowCut n E a b)) hab).some_
    have key := z146 hab h1 h2 E E h h.nodup (fun _ m => m) hp h3
    have : cross n (less E (· ∈ flowCut n E a b)) S = 0 := cs_zero (fun u v _ _ hu hv => by
      unfold cap
      refine if_neg (fun m => ?_)
      have m' := mem_less.1 m
      have e := key _ m'.1 m'.2
      unfold tie at e
      split at e <;> simp only at e <;> rw [hu, hv] at e <;> exact absurd e (by simp))
    omega
  · omega
theorem z149 {n : Int} {E : List T} (h : OK n E) {a b : Int} (hab : a ≠ b) : ((flowCut n E a b).length : Int) = flow n E a b := by
  have := z145 hab E E h h.nodup (fun _ m => m)
  have := z148 h hab
  unfold flowCut at *
  omega
theorem z150 {n : Int} {E : List T} (h : OK n E) {a b : Int} (ha : In n a) (hab : a ≠ b) : ¬ Conn (less E (· ∈ flowCut n E a b)) a b := (z75 (h.less _) ha hab).1 (z148 h hab)
theorem z151 (n : Int) (E gone : List T) (hE : E.length ≤ 1048576) (hg : gone.length ≤ 1048576) : ∀ (d i : Nat) (out : List T), i + d = E.length → out.length ≤ i →
    Ev (fun k => impl_Net_less.l0 k gone E E.length i n out) (n, out ++ less (E.drop i) (· ∈ gone))
  | 0, i, out, h, _ => by
    refine Ev.succ ?_
    simp only [impl_Net_less.l0]
    refine Ev.neg (by omega) (Ev.some_ ?_)
    rw [List.drop_of_length_le (by omega)]
    simp [less]
  | d + 1, i, out, h, hl => by
    have hi : i < E.length := by omega
    refine Ev.succ ?_
    simp only [impl_Net_less.l0, rd_T_nat E i hi]
    refine Ev.pos (by omega) (Ev.pos (by omega) (Ev.pos (by omega) (Ev.bind (z41 gone E[i] hg) ?_)))
    rw [List.drop_eq_getElem_cons hi, w64 (by omega)]
    by_cases h0 : E[i] ∈ gone
    · rw [z28 h0]
      exact Ev.pos (dec_t h0) (z151 n E gone hE hg d (i + 1) out (by omega) (by omega))
    · rw [z29 h0]
      refine Ev.neg (by rw [dec_f h0]; simp) (Ev.pos (by omega) ?_)
      refine Ev.cast (z151 n E gone hE hg d (i + 1) (out ++ [E[i]]) (by omega) (by simp only [List.length_append, List.length_singleton]; omega)) ?_
      simp
theorem ev_less (n : Int) (E gone : List T) (hE : E.length ≤ 1048576) (hg : gone.length ≤ 1048576) : Ev (fun k => impl_Net_less.f k n E gone) (n, less E (· ∈ gone)) := by
  simp only [impl_Net_less.f]
  exact z151 n E gone hE hg E.length 0 [] (by omega) (by simp)
theorem less_one (E : List T) (t : T) : less E (· ∈ [t]) = less E (· = t) := z25 (fun s _ => by simp)
theorem z152 {n : Int} {E : List T} (h : OK n E) {a b : Int} (ha : In n a) (hb : In n b) (hab : a ≠ b) : ∀ (d i : Nat) (out rest : List T) (need : Int), i + d = E.length → out.length ≤ i → need ≤ 64 → OK n rest →
    Ev (fun k => impl_FlowCut.l0 k a b out need E E.length i n rest) (out ++ greedy n a b (E.drop i) rest need, true)
  | 0, i, out, rest, need, hd, hl, hn, hr => by
    refine Ev.succ ?_
    simp only [impl_FlowCut.l0]
    rw [List.drop_of_length_le (by omega), greedy]
    exact Ev.neg (by omega) (Ev.some_ (by simp))
  | d + 1, i, out, rest, need, hd, hl, hn, hr => by
    have hi : i < E.length := by omega
    have hlE := h.length
    have hlr := hr.length
    refine Ev.succ ?_
    simp only [impl_FlowCut.l0, rd_T_nat E i hi]
    refine Ev.pos (by omega) (Ev.pos (by omega) (Ev.pos (by omega) (Ev.bind (ev_less n rest [E[i]] (by omega) (by simp)) ?_)))
    rw [less_one, List.drop_eq_getElem_cons hi, w64 (x := (i : Int) + 1) (by omega)]
    by_cases k : 0 < need
    · refine Ev.pos k (Ev.bind (ev_flow (hr.less _) ha hb hab) ?_)
      by_cases k2 : flow n (less rest (· = E[i])) a b < need
      · rw [z140 ⟨k, k2⟩, w64 (x := need - 1) (by omega)]
        refine Ev.pos k2 (Ev.pos (by omega) (Ev.cast (z152 h ha hb hab d (i + 1) (out ++ [E[i]]) _ (need - 1) (by omega) (by simp; omega) (by omega) (hr.less _)) ?_))
        simp
      · rw [z141 (fun x => k2 x.2)]
        exact Ev.neg k2 (z152 h ha hb hab d (i + 1) out rest need (by omega) (by omega) hn hr)
    · rw [z141 (fun x => k x.1)]
      exact Ev.neg k (z152 h ha hb hab d (i + 1) out rest need (by omega) (by omega) hn hr)
noncomputable def flowCutR (n : Int) (E : List T) (a b : Int) : List T × Bool := @ite _ (Two2 n E a b) (Classical.propDecidable _) (flowCut n E a b, true) ([], false)
theorem z153 {n : Int} {E : List T} {a b : Int} (h : Two2 n E a b) : flowCutR n E a b = (flowCut n E a b, true) := by unfold flowCutR; rw [if_pos h]
theorem z154 {n : Int} {E : List T} {a b : Int} (h : ¬ Two2 n E a b) : flowCutR n E a b = ([], false) := by unfold flowCutR; rw [if_neg h]
theorem z155 (n : Int) (E : List T) (a b : Int) : (flowCutR n E a b).1.length ≤ 64 := by
  by_cases h : Two2 n E a b
  · rw [z153 h]
    have := (z147 n E a b).length_le
    have := h.1.length
    dsimp only; omega
  · rw [z154 h]; simp
theorem z156 (n : Int) (E : List T) (a b : Int) (hE : E.length ≤ 1048576) : Ev (fun k => impl_FlowCut.f k n E a b) (flowCutR n E a b) := by
  simp only [impl_FlowCut.f]
  refine Ev.bind0 rfl (Ev.bind (z39 n E a b hE) ?_)
  by_cases h : Two2 n E a b
  · rw [z153 h]
    refine Ev.pos (dec_t h) (Ev.bind (ev_flow h.1 h.2.1 h.2.2.1 h.2.2.2) ?_)
    exact z152 h.1 h.2.1 h.2.2.1 h.2.2.2 E.length 0 [] E _ (by omega) (by simp) (flow_le h.1.n0 h.1.n8 E h.2.2.2) h.1
  · rw [z154 h]
    exact Ev.neg (by rw [dec_f h]; simp) (Ev.now _)
theorem z157 {n : Int} {E : List T} (h : OK n E) {a b : Int} (ha : In n a) (hb : In n b) (hab : a ≠ b) : ∀ (d i : Nat) (out rest : List T) (need : Int), i + d = E.length → out.length ≤ i → need ≤ 64 → OK n rest → (∀ t ∈ E.drop i, t ∈ rest) →
    Ev (fun k => spec_FlowCut.l0 k a b out need i n E n rest) (out ++ greedy n a b (E.drop i) rest need, true)
  | 0, i, out, rest, need, hd, hl, hn, hr, hm => by
    refine Ev.succ ?_
    simp only [spec_FlowCut.l0]
    rw [List.drop_of_length_le (by omega), greedy]
    refine Ev.neg (by omega) (Ev.succ ?_)
    simp only [spec_FlowCut.j1]
    exact Ev.neg (by simp) (Ev.some_ (by simp))
  | d + 1, i, out, rest, need, hd, hl, hn, hr, hm => by
    have hi : i < E.length := by omega
    have hlE := h.length
    have hlr := hr.length
    have hEd : (E.drop i).Nodup := (List.drop_sublist i E).nodup h.nodup
    rw [List.drop_eq_getElem_cons hi] at hm hEd ⊢
    have hmi := hm _ List.mem_cons_self
    refine Ev.succ ?_
    simp only [spec_FlowCut.l0]
    refine Ev.pos (by omega) (Ev.succ ?_)
    simp only [spec_FlowCut.j1, rd_T_nat E i hi]
    by_cases k : 0 < need
    · refine Ev.pos (decide_eq_true k) (Ev.pos (by omega) (Ev.pos (by omega) (Ev.bind (z114 hr (z22 hr hmi)) ?_)))
      rw [tie_self hr hmi, w64 (x := (i : Int) + 1) (by omega)]
      dsimp only
      refine Ev.bind (z137 n _ a b (by have := z30 rest (· = E[i]); omega) (hr.less _).wf) ?_
      rw [z135 ⟨hr.less _, ha, hb, hab⟩]
      by_cases k2 : flow n (less rest (· = E[i])) a b < need
      · rw [z140 ⟨k, k2⟩, w64 (x := need - 1) (by omega)]
        refine Ev.pos k2 (Ev.pos (by omega) (Ev.cast (z157 h ha hb hab d (i + 1) (out ++ [E[i]]) _ (need - 1) (by omega) (by simp; omega) (by omega) (hr.less _) (z144 hm hEd)) ?_))
        simp
      · rw [z141 (fun x => k2 x.2)]
        exact Ev.neg k2 (z157 h ha hb hab d (i + 1) out rest need (by omega) (by omega) hn hr (fun t ht => hm t (List.mem_cons_of_mem _ ht)))
    · rw [z142 _ _ (by omega)]
      exact Ev.neg (by simp only [decide_eq_true_eq]; exact k) (Ev.some_ (by simp))
theorem z158 (n : Int) (E : List T) (a b : Int) (hE : E.length ≤ 1048576) (hw : WF E) : Ev (fun k => spec_FlowCut.f k n E a b) (flowCutR n E a b) := by
  simp only [spec_FlowCut.f]
  refine Ev.bind0 rfl (Ev.bind (z137 n E a b hE hw) ?_)
  by_cases h : Two2 n E a b
  · have h0 := z73 n E h.2.2.2
    rw [z153 h, z135 h]
    refine Ev.neg (by omega) (Ev.bind0 (l1Copy n E hE) ?_)
    exact z157 h.1 h.2.1 h.2.2.1 h.2.2.2 E.length 0 [] E _ (by omega) (by simp) (flow_le h.1.n0 h.1.n8 E h.2.2.2) h.1 (by simp)
  · rw [z154 h, z136 h]
    exact Ev.pos (by omega) (Ev.now _)
theorem z159 (n : Int) (E : List T) (a b : Int) (hE : E.length ≤ 1048576) : Ev (fun k => impl_FlowCount.f k n E a b) (z134 n E a b) := by
  simp only [impl_FlowCount.f]
  refine Ev.bind (z39 n E a b hE) ?_
  by_cases h : Two2 n E a b
  · rw [z135 h]
    exact Ev.pos (dec_t h) (Ev.bind (ev_flow h.1 h.2.1 h.2.2.1 h.2.2.2) (Ev.now _))
  · rw [z136 h]
    exact Ev.neg (by rw [dec_f h]; simp) (Ev.now _)
structure Lab (n : Int) (E : List T) (out : List Int) : Prop where
  len : out.length = n.toNat
  le : ∀ x, In n x → 0 ≤ rd out x ∧ rd out x ≤ x
  ok : ∀ x, In n x → Conn E (rd out x) x
theorem Lab.done {n : Int} {E : List T} {out : List Int} (s : Lab n E out) (he : ∀ t ∈ E, rd out t.f0 = rd out t.f1) : out = partsL n E := by
  refine ext_rd (by rw [s.len]; unfold partsL; rw [List.length_map, z12]) (fun x h0 hx => ?_)
  rw [s.len] at hx
  have hx' : In n x := ⟨h0, by omega⟩
  unfold partsL
  rw [rd_mapks n _ x h0 hx'.2]
  have hk : ∀ a b, Conn E a b → rd out a = rd out b := fun a b c => by
    have := c.keeps (P := fun y => rd out a = rd out y) (fun b c m k => k.trans ?_) rfl
    · exact this
    · have := he _ m
      unfold tie at this
      split at this <;> simp only at this
      · exact this
      · exact this.symm
  refine (z33 E h0 (s.le x hx').1 (s.ok x hx') (fun j hj hc => ?_)).symm
  by_cases hjn : j < n
  · have := (s.le j ⟨hj, hjn⟩).2
    rw [hk j x hc] at this
    exact this
  · have := (s.le x hx').2
    omega
theorem Lab.nonneg {n : Int} {E : List T} {out : List Int} (s : Lab n E out) : 0 ≤ out.sum := by
  refine z19 out (fun x hx => ?_)
  obtain ⟨i, hi, e⟩ := List.mem_iff_getElem.1 hx
  have := (s.le i ⟨by omega, by have := s.len; omega⟩).1
  rw [z20 _ i hi, e] at this
  exact this
def Pass (E : List T) (out0 out : List Int) (ag : Bool) : Prop := ag = true ∧ out.sum < out0.sum ∨ ag = false ∧ out = out0 ∧ ∀ t ∈ E, rd out0 t.f0 = rd out0 t.f1
theorem mn_le (a b : Int) : mn a b ≤ a ∧ mn a b ≤ b ∧ (mn a b = a ∨ mn a b = b) := by unfold mn; split <;> omega
theorem z160 {n : Int} {E : List T} (h : OK n E) (out0 r : List Int) (hk : ∀ out ag, Lab n E out → Pass E out0 out ag → Ev (fun k => impl_Net_parts.l1 k out ag n E) r) :
    ∀ (d i : Nat) (out : List Int) (ag : Bool), i + d = E.length → Lab n E out → Pass (E.take i) out0 out ag → Ev (fun k => impl_Net_parts.l2 k out ag E E.length i n E) r
  | 0, i, out, ag, hi, s, p => by
    refine Ev.succ ?_
    simp only [impl_Net_parts.l2]
    refine Ev.neg (by omega) (hk out ag s ?_)
    rw [List.take_of_length_le (by omega)] at p
    exact p
  | d + 1, i, out, ag, hd, s, p => by
    have hi : i < E.length := by omega
    have hl := h.length
    have h8 := h.n8
    have ht := h.tie E[i] (List.getElem_mem hi)
    have hln := s.len
    refine Ev.succ ?_
    simp only [impl_Net_parts.l2, rd_T_nat E i hi]
    refine Ev.pos (by omega) (Ev.pos (by omega) (Ev.pos (by omega) (Ev.pos (by omega) (Ev.pos (by omega) (Ev.pos (by omega) (Ev.pos (by omega) ?_))))))
    rw [w64 (by omega)]
    by_cases e : rd out E[i].f0 = rd out E[i].f1
    · refine Ev.pos e (z160 h out0 r hk d (i + 1) out ag (by omega) s ?_)
      rcases p with p | ⟨p, rfl, q⟩
      · exact Or.inl p
      · refine Or.inr ⟨p, rfl, fun t ht => ?_⟩
        rw [← List.take_append_getElem hi] at ht
        rcases List.mem_append.1 ht with m | m
        · exact q t m
        · rw [List.mem_singleton] at m; subst m; exact e
    · have hm := mn_le (rd out E[i].f0) (rd out E[i].f1)
      generalize mn (rd out E[i].f0) (rd out E[i].f1) = m at hm
      have ha : In n E[i].f0 := ⟨by omega, by omega⟩
      have hb : In n E[i].f1 := ⟨by omega, by omega⟩
      have hla : E[i].f0 < (out.length : Int) := by omega
      have hc : Has E E[i].f0 E[i].f1 := z22 h (List.getElem_mem hi)
      have hca : Conn E m E[i].f0 := by
        rcases hm.2.2 with e | e
        · rw [e]; exact s.ok _ ha
        · rw [e]; exact (s.ok _ hb).trans (Conn.one hc).symm
      have hrd : ∀ x, 0 ≤ x → rd ((out.set E[i].f0.toNat m).set E[i].f1.toNat m) x = if x = E[i].f0 ∨ x = E[i].f1 then m else rd out x := fun x hx => by
        rw [rd_set _ _ _ _ hb.1 (by rw [List.length_set]; omega) hx, rd_set _ _ _ _ ha.1 hla hx]
        by_cases e1 : x = E[i].f1
        · rw [if_pos e1, if_pos (Or.inr e1)]
        · rw [if_neg e1]
          by_cases e0 : x = E[i].f0
          · rw [if_pos e0, if_pos (Or.inl e0)]
          · rw [if_neg e0, if_neg (not_or.2 ⟨e0, e1⟩)]
      have hsum : ((out.set E[i].f0.toNat m).set E[i].f1.toNat m).sum < out.sum := by
        rw [sum_set _ _ _ (by rw [List.length_set]; omega), sum_set _ _ _ (by omega)]
        rw [List.getElem_set_ne (by omega)]
        rw [rd_i out _ ha.1 hla] at hm e
        rw [rd_i out _ hb.1 (by omega)] at hm e
        omega
      refine Ev.neg e (z160 h out0 r hk d (i + 1) _ true (by omega) ⟨by simp [s.len], fun x hx => ?_, fun x hx => ?_⟩ (Or.inl ⟨rfl, ?_⟩))
      · rw [hrd x hx.1]
        have := s.le x hx
        have := s.le _ ha
        have := s.le _ hb
        split
        · next e => rcases e with rfl | rfl <;> omega
        · omega
      · rw [hrd x hx.1]
        split
        · next e =>
          rcases e with rfl | rfl
          · exact hca
          · exact hca.step hc
        · exact s.ok x hx
      · rcases p with p | ⟨_, rfl, _⟩
        · omega
        · exact hsum
theorem z161 {n : Int} {E : List T} (h : OK n E) : ∀ (m : Nat) (out : List Int), Lab n E out → out.sum ≤ m → Ev (fun k => impl_Net_parts.l1 k out true n E) (partsL n E)
  | m, out, s, hm => by
    refine Ev.succ ?_
    simp only [impl_Net_parts.l1]
    refine Ev.pos trivial ?_
    refine z160 h out _ (fun out' ag s' p => ?_) E.length 0 out false (by omega) s (Or.inr ⟨rfl, rfl, by simp⟩)
    rcases p with ⟨rfl, p⟩ | ⟨rfl, rfl, p⟩
    · cases m with
      | zero => have := s'.nonneg; omega
      | succ m => exact z161 h m out' s' (by omega)
    · refine Ev.succ ?_
      simp only [impl_Net_parts.l1]
      exact Ev.neg (by simp) (Ev.some_ (s.done p))
theorem z162 {n : Int} {E : List T} (h : OK n E) : ∀ (d : Nat) (i : Int), 0 ≤ i → i + d = n → Ev (fun k => impl_Net_parts.l0 k (ks i) n i n E) (partsL n E)
  | 0, i, h0, hd => by
    obtain rfl : i = n := by omega
    refine Ev.succ ?_
    simp only [impl_Net_parts.l0]
    refine Ev.neg (by omega) ?_
    have hr : ∀ x, In i x → rd (ks i) x = x := fun x hx => by
      have := rd_mapks i (fun x => x) x hx.1 hx.2
      simpa using this
    have s : Lab i E (ks i) := ⟨z12 i, fun x hx => by rw [hr x hx]; exact ⟨hx.1, Int.le_refl _⟩, fun x hx => by rw [hr x hx]; exact .refl _⟩
    exact z161 h (ks i).sum.toNat _ s (by have := s.nonneg; omega)
  | d + 1, i, h0, hd => by
    have := h.n8
    refine Ev.succ ?_
    simp only [impl_Net_parts.l0]
    refine Ev.pos (by omega) (Ev.pos (by rw [z12]; omega) ?_)
    rw [w64 (by omega), ← ks_succ h0]
    exact z162 h d (i + 1) (by omega) (by omega)
theorem ev_parts {n : Int} {E : List T} (h : OK n E) : Ev (fun k => impl_Net_parts.f k n E) (partsL n E) := by
  simp only [impl_Net_parts.f]
  exact z162 h n.toNat 0 (by omega) (by have := h.n0; omega)
theorem z163 (n : Int) (E : List T) : (partsL n E).length = n.toNat := by unfold partsL; rw [List.length_map, z12]
theorem z164 {n : Int} (E : List T) {a : Int} (ha : In n a) : rd (partsL n E) a = rep E a := by
  unfold partsL; rw [rd_mapks n _ a ha.1 ha.2]
theorem z165 {n : Int} {E : List T} (h : OK n E) {a b : Int} (ha : In n a) (hb : In n b) : Ev (fun k => impl_Net_joined.f k n E a b) (dec (Conn E a b)) := by
  simp only [impl_Net_joined.f]
  have := ha.1
  have := ha.2
  have := hb.1
  have := hb.2
  refine Ev.bind (ev_parts h) ?_
  rw [z163]
  refine Ev.pos (by omega) (Ev.pos (by omega) (Ev.pos (by omega) (Ev.pos (by omega) (Ev.some_ (dec_of ?_)))))
  rw [z164 E ha, z164 E hb, beq_iff_eq]
  exact rep_iff E ha.1 hb.1
def Own (E L : List T) : Prop := (∀ t ∈ L, t ∈ E) ∧ Asc L
theorem z166 (n : Int) (E L : List T) (hE : E.length ≤ 1048576) (hL : L.length ≤ 1048576) : ∀ (d i : Nat), i + d = L.length → Ev (fun k => impl_Net_own.l0 k L L L.length i n E) (dec ((∀ t ∈ L.drop i, t ∈ E) ∧ Asc L))
  | 0, i, h => by
    refine Ev.succ ?_
    simp only [impl_Net_own.l0]
    refine Ev.neg (by omega) (Ev.bind (z6 L hL) (Ev.some_ (z0 ?_)))
    rw [List.drop_of_length_le (by omega)]
    simp
  | d + 1, i, h => by
    have hi : i < L.length := by omega
    refine Ev.succ ?_
    simp only [impl_Net_own.l0, rd_T_nat L i hi]
    refine Ev.pos (by omega) (Ev.pos (by omega) (Ev.pos (by omega) (Ev.bind (z41 E L[i] hE) ?_)))
    rw [List.drop_eq_getElem_cons hi, w64 (by omega)]
    by_cases h0 : L[i] ∈ E
    · refine Ev.pos (dec_t h0) (Ev.cast (z166 n E L hE hL d (i + 1) (by omega)) (z0 ?_))
      simp only [List.forall_mem_cons, h0, true_and]
    · refine Ev.neg (by rw [dec_f h0]; simp) (Ev.ff (fun k => h0 (k.1 _ List.mem_cons_self)) (Ev.now _))
theorem ev_own (n : Int) (E L : List T) (hE : E.length ≤ 1048576) (hL : L.length ≤ 1048576) : Ev (fun k => impl_Net_own.f k n E L) (dec (Own E L)) := by
  simp only [impl_Net_own.f]
  exact z166 n E L hE hL L.length 0 (by omega)
def FlowParts (n : Int) (E : List T) (a b : Int) (L : List T) : Prop := Two2 n E a b ∧ Own E L ∧ ¬ Conn (less E (· ∈ L)) a b
theorem z167 (n : Int) (E : List T) (a b : Int) (L : List T) (hE : E.length ≤ 1048576) (hL : L.length ≤ 1048576) : Ev (fun k => impl_FlowParts.f k n E a b L) (dec (FlowParts n E a b L)) := by
  simp only [impl_FlowParts.f]
  refine Ev.bind (z39 n E a b hE) ?_
  by_cases h2 : Two2 n E a b
  · refine Ev.pos (dec_t h2) (Ev.bind (ev_own n E L hE hL) ?_)
    by_cases ho : Own E L
    · refine Ev.pos (dec_t ho) (Ev.bind (ev_less n E L hE hL) (Ev.bind (z165 (h2.1.less _) h2.2.1 h2.2.2.1) (Ev.some_ ?_)))
      by_cases hc : Conn (less E (· ∈ L)) a b
      · rw [dec_t hc, dec_f (fun k => k.2.2 hc)]; rfl
      · rw [dec_f hc, dec_t ⟨h2, ho, hc⟩]; rfl
    · exact Ev.neg (by rw [dec_f ho]; simp) (Ev.ff (fun k => ho k.2.1) (Ev.now _))
  · exact Ev.neg (by rw [dec_f h2]; simp) (Ev.ff (fun k => h2 k.1) (Ev.now _))
theorem z168 (l : List T) (hl : l.length ≤ 1048576) : ∀ (d i : Nat), i + d = l.length → Ev (fun k => laws_loTies.l0 k l l i) true
  | 0, i, h => by
    refine Ev.succ ?_
    simp only [laws_loTies.l0]
    exact Ev.neg (by omega) (Ev.now _)
  | d + 1, i, h => by
    refine Ev.succ ?_
    simp only [laws_loTies.l0]
    refine Ev.pos (by omega) (Ev.pos (by omega) (Ev.pos (by omega) (Ev.neg (by simp) ?_)))
    rw [w64 (by omega)]
    exact z168 l hl d (i + 1) (by omega)
theorem z169 (l : List T) (hl : l.length ≤ 1048576) : Ev (fun k => laws_loTies.f k l l) true := by
  simp only [laws_loTies.f]
  exact Ev.pos trivial (z168 l hl l.length 0 (by omega))
end Go.Proofs.Ytffflhmblelegaa.Th
namespace Go.Proofs.Ytffflhmblelegaa.Pure
open Go.RowKit Go.Proofs.YtffflhmblelegaaW.PrintWords Go.Proofs.YtffflhmblelegaaW.PrintLast Go.Proofs.YtffflhmblelegaaW.PrintMore Go.Proofs.Ytffflhmblelegaa.F Go.Proofs.Ytffflhmblelegaa.Th
theorem FnFlowTop : laws_FnFlowTop.Pure := by
  intro l hl
  refine Ev.rounds (g := fun k => laws_FnFlowTop.f k l) ?_
  simp only [laws_FnFlowTop.f]
  by_cases h1 : (l.length : Int) > 1048576
  · exact Ev.pos h1 (Ev.now _)
  · obtain ⟨n, E, a, b, W, hd, hn, hW, hr⟩ := z120 l hl
    have hr2 : ∀ w ∈ W, w.length ≤ 1048576 := fun w hw => by have := hr w hw; omega
    have hlen := z155 n E a b
    refine Ev.neg h1 (Ev.bind hd (Ev.bind (z63 n E a b W hn.le hr2) (Ev.bind (z156 n E a b hn.le) (Ev.bind (z158 n E a b hn.le hn.wf) (Ev.bind (z59 n E a b W hn.le hn.wf (by omega) hr2) (Ev.neg (by simp) (Ev.neg (by simp) (Ev.bind (z169 _ (by omega)) (Ev.succ ?_)))))))))
    simp only [laws_FnFlowTop.j0]
    refine Ev.neg (by simp) ?_
    by_cases h : Two2 n E a b
    · rw [z153 h] at hlen ⊢
      dsimp only at hlen ⊢
      have h' := h
      obtain ⟨hE, ha, hb, hab⟩ := h'
      have hs := z147 n E a b
      have hp : FlowParts n E a b (flowCut n E a b) := ⟨h, ⟨fun t ht => hs.subset ht, List.Pairwise.sublist hs hE.asc⟩, z150 hE ha hab⟩
      have he := z149 hE hab
      refine Ev.pos rfl (Ev.bind (z159 n E a b hn.le) (Ev.pos ?_ (Ev.bind (z167 n E a b _ hn.le (by omega)) (Ev.pos (dec_t hp) ?_))))
      · rw [he]; unfold z134; rw [if_pos h]
      · by_cases ok : FlowOkP n E a b W
        · have := ok.le
          exact Ev.pos (dec_t ok) (Ev.some_ (decide_eq_true (by omega)))
        · exact Ev.neg (by rw [dec_f ok]; simp) (Ev.now _)
    · rw [z154 h]
      have ok : ¬ FlowOkP n E a b W := fun k => h k.1
      refine Ev.neg (by simp) (Ev.neg (by rw [dec_f ok]; simp) (Ev.bind (z159 n E a b hn.le) (Ev.some_ ?_)))
      unfold z134; rw [if_neg h]; rfl
end Go.Proofs.Ytffflhmblelegaa.Pure
