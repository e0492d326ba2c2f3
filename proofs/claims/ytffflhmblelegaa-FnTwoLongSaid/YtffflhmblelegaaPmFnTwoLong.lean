/-
P55: the ties of two ways that are apart are all of one block.
-/
import Derived.Test.YtffflhmblelegaaWs
import Derived.Test.YtffflhmblelegaaF0
import Derived.Test.YtffflhmblelegaaF3
import Derived.Test.YtffflhmblelegaaF4
import Derived.Test.YtffflhmblelegaaF14
import Derived.Test.YtffflhmblelegaaF6
import Derived.Test.YtffflhmblelegaaF18
import Derived.Test.YtffflhmblelegaaXAll
import Derived.Test.YtffflhmblelegaaF12
import Derived.Test.YtffflhmblelegaaF11
import Derived.Test.YtffflhmblelegaaF13
import Derived.Test.YtffflhmblelegaaF10
import Derived.Test.YtffflhmblelegaaF8
import Derived.Test.YtffflhmblelegaaF44
import Derived.Test.YtffflhmblelegaaF45
import Derived.Test.YtffflhmblelegaaF51
import Derived.Test.YtffflhmblelegaaXWayAll
import Derived.Test.YtffflhmblelegaaF32
import Derived.Test.YtffflhmblelegaaF25
import Derived.Test.YtffflhmblelegaaF46
import Derived.Test.YtffflhmblelegaaF47
import Derived.Test.YtffflhmblelegaaF48
import Derived.Test.YtffflhmblelegaaF15
import Derived.Test.YtffflhmblelegaaF49
import Derived.Test.YtffflhmblelegaaF23
import Derived.Test.YtffflhmblelegaaF35
import Derived.Test.YtffflhmblelegaaF40
import Derived.Test.YtffflhmblelegaaF53
import Derived.WalkKit
import Derived.ProofKit
import Derived.Deep.Slices
import Derived.ChangeSame
namespace Go.Proofs.Ytffflhmblelegaa.Op
open Go.ChangeShapes Go.WideShapes Go.Deep Go.Proofs.YtffflhmblelegaaW.PrintWords
def Opens {α : Type} (P : Program) (t : TypeId) (d : Kd α) (I : α → Prop) : Prop :=
  ∀ {H : Type} (enc : TypeId × Value → H) (W : World) (base : Nat) (held : Bool) (fuel : Nat) (cs : List Value) (x : DataW H × List MemPlace),
    DataW.trod enc P W base (fun _ => true) held fuel t cs = some x → ∃ a, I a ∧ d.K W a cs
theorem opens_int {P : Program} {t : TypeId} {k : IntKind} (ht : P.underlying t = some (.int k)) : Opens P t (Kd.int k) (fun x => (Lit.int k x).wf = true) := by
  intro H enc W base held fuel cs x h
  obtain ⟨n, rfl, _, hw⟩ := DataW.trod_int ht h
  exact ⟨n, hw, rfl⟩
theorem opens_slice {α : Type} [Inhabited α] {P : Program} {t e : TypeId} {d : Kd α} {I : α → Prop} (ht : P.underlying t = some (.slice e)) (hC : P.cellsOf e = d.sz) (h : Opens P e d I) :
    Opens P t (Kd.slice e d) (fun l => l.length ≤ maxLen ∧ ∀ x ∈ l, I x) := by
  intro H enc W base held fuel cs x hx
  rcases open_slice ht hx with ⟨rfl, _⟩ | ⟨a, len, cap, m, n, D, Pl, rfl, hb, hl, hm, hmm, _, hi⟩
  · exact ⟨[], ⟨Nat.zero_le _, fun _ h => by cases h⟩, none, 0, rfl, Nat.le_refl _, rfl, Nat.zero_le _, fun h => absurd h (Nat.lt_irrefl 0)⟩
  · simp only [if_true] at hmm
    rw [hmm] at hi
    clear hmm
    have each : ∀ i, i < len → ∃ y : α, I y ∧ ∃ cs', cs'.length = d.sz ∧ d.K W y cs' ∧ ∀ j u, cs'[j]? = some u → W.cell? (a.add (i * d.sz + j)) = some u := by
      intro i hi'
      obtain ⟨cs', hc, hd⟩ := hi i (by omega)
      obtain ⟨y, iy, ky⟩ := h enc W base held n _ _ hd
      rw [hC] at hc
      obtain ⟨_, hcl, hat⟩ := World.cells?_some hc
      refine ⟨y, iy, cs', hcl, ky, fun j u hu => ?_⟩
      have hj := (List.getElem?_eq_some_iff.1 hu).1
      rw [← Go.Deep.add_add, hat j (by omega), hu]
    obtain ⟨f, hf⟩ := choose_lt each
    refine ⟨(List.range len).map f, ⟨by simpa using Nat.le_trans hl hm, ?_⟩, some a, cap, ?_, ?_, rfl, ?_, ?_⟩
    · intro x hx
      obtain ⟨i, hi', rfl⟩ := List.mem_map.1 hx
      exact (hf i (List.mem_range.1 hi')).1
    · simp
    · simpa using hl
    · have := Nat.le_trans hl hm
      unfold maxLen at this
      simpa using this
    · intro _
      refine ⟨a, rfl, fun j p hj => ?_⟩
      obtain ⟨hj', rfl⟩ := List.getElem?_eq_some_iff.1 hj
      simp only [List.getElem_map, List.getElem_range]
      obtain ⟨_, cs', h1, h2, h3⟩ := hf j (by simpa using hj')
      exact ⟨cs', h1, h2, h3⟩
theorem Opens.asSlice {H : Type} {enc : TypeId × Value → H} {α : Type} {P : Program} {t e : TypeId} {d : Kd α} {I : List α → Prop} (h : Opens P t (Kd.slice e d) I) {W : World} {base : Nat} {held : Bool} {A : Option Addr} {n c : Nat} {x : DataW H} {ps : List MemPlace}
    (hx : DataW.Trod enc P W base (fun _ => true) held t (.slice A n c) x ps) : ∃ l, n = l.length ∧ I l ∧ l.length ≤ c ∧ d.C W A l.length l := by
  obtain ⟨fuel, hf⟩ := hx
  obtain ⟨l, il, A', c', hcs, hl, hC⟩ := h enc W base held fuel _ _ hf
  simp only [Value.cells, List.cons.injEq, and_true, Value.slice.injEq] at hcs
  obtain ⟨rfl, rfl, rfl⟩ := hcs
  exact ⟨l, rfl, il, hl, hC⟩
end Go.Proofs.Ytffflhmblelegaa.Op
namespace Go.Proofs.Ytffflhmblelegaa.Th
open Go.RowKit Go.Proofs.YtffflhmblelegaaW.PrintWords Go.Proofs.YtffflhmblelegaaW.PrintLast Go.Proofs.YtffflhmblelegaaW.PrintMore Go.Proofs.Ytffflhmblelegaa.F
theorem w64 {x : Int} (h : -9223372036854775808 ≤ x ∧ x ≤ 9223372036854775807) : wrap64 x = x := by unfold wrap64; omega
theorem wf_u8 {x : Int} (h : (Lit.int .u8 x).wf = true) : 0 ≤ x ∧ x ≤ 255 := by
  simp only [Lit.wf, Bool.and_eq_true, decide_eq_true_eq] at h
  exact h
theorem Ev.succ {α : Type} {g : Nat → Option α} {r : α} (h : Ev (fun k => g (k + 1)) r) : Ev g r := Ev.step (fun _ => rfl) h
theorem Ev.some_ {α : Type} {r s : α} (h : s = r) : Ev (fun _ => some s) r := by subst h; exact Ev.now _
theorem Ev.pos {α : Type} {c : Prop} [Decidable c] {a b : Nat → Option α} {r : α} (hc : c) (h : Ev a r) : Ev (fun k => if c then a k else b k) r := Ev.congr (fun _ => if_pos hc) h
theorem Ev.neg {α : Type} {c : Prop} [Decidable c] {a b : Nat → Option α} {r : α} (hc : ¬ c) (h : Ev b r) : Ev (fun k => if c then a k else b k) r := Ev.congr (fun _ => if_neg hc) h
theorem Ev.bind0 {α β : Type} {o : Option α} {a : α} {f : Nat → α → Option β} {r : β} (h : o = some a) (k : Ev (fun n => f n a) r) : Ev (fun n => o.bind (f n)) r := by subst h; exact k
theorem Ev.cast {α : Type} {g : Nat → Option α} {r s : α} (h : Ev g r) (e : r = s) : Ev g s := e ▸ h
noncomputable def dec (p : Prop) : Bool := @decide p (Classical.propDecidable p)
theorem dec_iff {p : Prop} : dec p = true ↔ p := by unfold dec; exact @decide_eq_true_iff p (Classical.propDecidable p)
theorem dec_t {p : Prop} (h : p) : dec p = true := dec_iff.2 h
theorem dec_f {p : Prop} (h : ¬ p) : dec p = false := by
  cases e : dec p with
  | false => rfl
  | true => exact absurd (dec_iff.1 e) h
theorem dec_of {b : Bool} {p : Prop} (h : b = true ↔ p) : b = dec p := by rw [Bool.eq_iff_iff, h, dec_iff]
theorem z0 {p q : Prop} (h : p ↔ q) : dec p = dec q := by rw [Bool.eq_iff_iff, dec_iff, dec_iff, h]
theorem Ev.tt {g : Nat → Option Bool} {p : Prop} (hp : p) (h : Ev g true) : Ev g (dec p) := by rw [dec_t hp]; exact h
theorem Ev.ff {g : Nat → Option Bool} {p : Prop} (hp : ¬ p) (h : Ev g false) : Ev g (dec p) := by rw [dec_f hp]; exact h
theorem Ev.dec {g : Nat → Option Bool} {p : Prop} {b : Bool} (h : Ev g b) (hb : b = true ↔ p) : Ev g (dec p) := Ev.cast h (dec_of hb)
theorem rd_nat (l : List Int) (i : Nat) : rd l (i : Int) = l.getD i 0 := by simp [rd]
abbrev T := S52
theorem T.ext {s t : T} (h0 : s.f0 = t.f0) (h1 : s.f1 = t.f1) : s = t := by cases s; cases t; simp_all
instance : DecidableEq T := fun a b => decidable_of_iff (a.f0 = b.f0 ∧ a.f1 = b.f1) ⟨fun h => T.ext h.1 h.2, fun h => by subst h; exact ⟨rfl, rfl⟩⟩
instance : Inhabited T := ⟨⟨0, 0⟩⟩
def lt (s t : T) : Prop := s.f0 < t.f0 ∨ s.f0 = t.f0 ∧ s.f1 < t.f1
instance (s t : T) : Decidable (lt s t) := inferInstanceAs (Decidable (_ ∨ _))
theorem lt_trans {s t u : T} (h : lt s t) (k : lt t u) : lt s u := by unfold lt at *; omega
theorem lt_tri (s t : T) : lt s t ∨ s = t ∨ lt t s := by
  by_cases h : s.f0 = t.f0 <;> by_cases k : s.f1 = t.f1
  · exact Or.inr (Or.inl (T.ext h k))
  · unfold lt; omega
  · unfold lt; omega
  · unfold lt; omega
def Asc (E : List T) : Prop := E.Pairwise lt
def AscN : List T → Bool
  | [] => true
  | [_] => true
  | s :: t :: r => decide (lt s t) && AscN (t :: r)
theorem ascN_iff : ∀ E : List T, AscN E = true ↔ Asc E
  | [] => by simp [AscN, Asc]
  | [_] => by simp [AscN, Asc]
  | s :: t :: r => by
    have ih := ascN_iff (t :: r)
    simp only [AscN, Bool.and_eq_true, decide_eq_true_eq, ih, Asc, List.pairwise_cons]
    constructor
    · rintro ⟨h, k, m⟩
      refine ⟨fun u hu => ?_, k, m⟩
      rcases List.mem_cons.1 hu with rfl | hu
      · exact h
      · exact lt_trans h (k u hu)
    · rintro ⟨h, k⟩
      exact ⟨h t (by simp), k⟩
structure OK (n : Int) (E : List T) : Prop where
  n0 : 0 ≤ n
  n8 : n ≤ 8
  tie : ∀ t ∈ E, 0 ≤ t.f0 ∧ t.f0 < t.f1 ∧ t.f1 < n
  asc : Asc E
theorem rd_T_nat (E : List T) (i : Nat) (h : i < E.length) : rd_T52 E i = E[i] := by
  simp [rd_T52, List.getD_eq_getElem?_getD, List.getElem?_eq_getElem h]
theorem z1 (E : List T) (h : Asc E) : ∀ m : Nat, (∀ t ∈ E, 0 ≤ t.f0 * 8 + t.f1 ∧ t.f1 < 8 ∧ 0 ≤ t.f1 ∧ t.f0 * 8 + t.f1 < m) → E.length ≤ m := by
  -- the numbers 8 a + b ascend
  have key : ∀ (E : List T), Asc E → ∀ lo m : Int, lo ≤ m → (∀ t ∈ E, lo ≤ t.f0 * 8 + t.f1 ∧ t.f1 < 8 ∧ 0 ≤ t.f1 ∧ t.f0 * 8 + t.f1 < m) → (E.length : Int) ≤ m - lo := by
    intro E
    induction E with
    | nil => intro _ lo m h _; simp; omega
    | cons s r ih =>
      intro ha lo m hlm hb
      have hs := hb s (by simp)
      have := ih (List.Pairwise.of_cons ha) (s.f0 * 8 + s.f1 + 1) m (by omega) (fun t ht => by
        have h1 := (List.pairwise_cons.1 ha).1 t ht
        have h2 := hb t (by simp [ht])
        unfold lt at h1
        omega)
      simp only [List.length_cons]
      omega
  intro m hb
  have := key E h 0 m (by omega) (fun t ht => by have := hb t ht; omega)
  omega
theorem OK.length {n : Int} {E : List T} (h : OK n E) : E.length ≤ 64 := by
  refine z1 E h.asc 64 (fun t ht => ?_)
  have := h.tie t ht
  have := h.n8
  omega
theorem l6In (a b c : Int) : spec_l6In.f a b c = some (decide (b ≤ a ∧ a ≤ c)) := by
  unfold spec_l6In.f
  by_cases h : a ≥ b
  · rw [if_pos h]; congr 1; exact decide_eq_decide.2 (by omega)
  · rw [if_neg h]; congr 1; symm; exact decide_eq_false (by omega)
theorem l1Less (s t : T) : spec_l1Less.f s.f0 s.f1 t.f0 t.f1 = some (decide (lt s t)) := by
  unfold spec_l1Less.f lt
  by_cases h : s.f0 < t.f0
  · rw [if_pos h]; congr 1; symm; exact decide_eq_true (by omega)
  · rw [if_neg h]
    by_cases k : s.f0 = t.f0
    · rw [if_pos k]; congr 1; exact decide_eq_decide.2 (by omega)
    · rw [if_neg k]; congr 1; symm; exact decide_eq_false (by omega)
def okAt (n : Int) (E : List T) (i : Nat) : Bool :=
  match E[i]? with
  | none => true
  | some t => decide (0 ≤ t.f0 ∧ t.f0 ≤ n - 1) && decide (t.f0 + 1 ≤ t.f1 ∧ t.f1 ≤ n - 1) && (match i with | 0 => true | j + 1 => match E[j]? with | none => true | some s => decide (lt s t))
theorem z2 (n : Int) (E : List T) (hn : 0 ≤ n ∧ n ≤ 8) (hE : E.length ≤ 64) (hw : ∀ t ∈ E, (-9223372036854775808 ≤ t.f0 ∧ t.f0 ≤ 9223372036854775807)) :
    ∀ (d i : Nat), i + d = E.length → Ev (fun k => spec_NetOk.l0 k i n E) ((List.range' i d).all (okAt n E))
  | 0, i, h => by
    refine Ev.succ ?_
    simp only [spec_NetOk.l0]
    refine Ev.neg (by omega) ?_
    exact Ev.some_ (by simp)
  | d + 1, i, h => by
    have hi : i < E.length := by omega
    have hE' : E[i]? = some E[i] := List.getElem?_eq_getElem hi
    refine Ev.succ ?_
    simp only [spec_NetOk.l0, rd_T_nat E i hi]
    refine Ev.pos (by omega) (Ev.pos (by omega) ?_)
    rw [w64 (x := n - 1) (by omega)]
    refine Ev.bind0 (l6In _ _ _) ?_
    simp only [List.range'_succ, List.all_cons]
    by_cases h1 : 0 ≤ E[i].f0 ∧ E[i].f0 ≤ n - 1
    · refine Ev.pos (decide_eq_true h1) ?_
      have h2 := hw E[i] (List.getElem_mem hi)
      rw [w64 (x := E[i].f0 + 1) (by omega)]
      refine Ev.bind0 (l6In _ _ _) ?_
      by_cases h3 : E[i].f0 + 1 ≤ E[i].f1 ∧ E[i].f1 ≤ n - 1
      · refine Ev.pos (decide_eq_true h3) ?_
        have hrec := z2 n E hn hE hw d (i + 1) (by omega)
        cases i with
        | zero =>
          refine Ev.neg (by omega) ?_
          rw [w64 (by omega)]
          refine Ev.cast hrec ?_
          simp [okAt, hE', h1, h3]
        | succ j =>
          refine Ev.pos (by omega) ?_
          have hj : wrap64 (((j + 1 : Nat) : Int) - 1) = (j : Int) := by rw [w64 (by omega)]; omega
          rw [hj]
          refine Ev.pos (by omega) (Ev.pos (by omega) ?_)
          rw [rd_T_nat E j (by omega)]
          refine Ev.bind0 (l1Less _ _) ?_
          have hEj : E[j]? = some (E[j]'(by omega)) := List.getElem?_eq_getElem (by omega)
          by_cases h4 : lt (E[j]'(by omega)) E[j + 1]
          · refine Ev.pos (decide_eq_true h4) ?_
            rw [w64 (by omega)]
            refine Ev.cast hrec ?_
            simp [okAt, hE', hEj, h1, h3, h4]
          · refine Ev.neg (by simp [h4]) ?_
            exact Ev.some_ (by simp [okAt, hE', hEj, h4])
      · refine Ev.neg (by simp [h3]) ?_
        refine Ev.some_ ?_
        simp only [okAt, hE', decide_eq_false h3, Bool.and_false, Bool.false_and]
    · refine Ev.neg (by simp only [decide_eq_true_eq]; exact h1) ?_
      refine Ev.some_ ?_
      simp only [okAt, hE', decide_eq_false h1, Bool.false_and]
theorem okAt_iff (n : Int) (E : List T) (hn : 0 ≤ n ∧ n ≤ 8) : (List.range' 0 E.length).all (okAt n E) = true ↔ OK n E := by
  rw [List.all_eq_true]
  have hr : ∀ i, i ∈ List.range' 0 E.length ↔ i < E.length := fun i => by simp [List.mem_range']
  constructor
  · intro h
    refine ⟨hn.1, hn.2, fun t ht => ?_, ?_⟩
    · obtain ⟨i, hi, rfl⟩ := List.mem_iff_getElem.1 ht
      have := h i ((hr i).2 hi)
      simp only [okAt, List.getElem?_eq_getElem hi, Bool.and_eq_true, decide_eq_true_eq] at this
      omega
    · refine List.pairwise_iff_getElem.2 ?_
      -- neighbours ascend, so all do
      have nb : ∀ j, (hj : j + 1 < E.length) → lt (E[j]'(by omega)) E[j + 1] := fun j hj => by
        have := h (j + 1) ((hr _).2 hj)
        simp only [okAt, List.getElem?_eq_getElem hj, List.getElem?_eq_getElem (show j < E.length by omega), Bool.and_eq_true, decide_eq_true_eq] at this
        exact this.2
      intro i j hi hj hij
      induction j with
      | zero => omega
      | succ j ih =>
        by_cases e : i = j
        · subst e; exact nb i hj
        · exact lt_trans (ih (by omega) (by omega)) (nb j hj)
  · intro h i hi
    rw [hr] at hi
    have h1 := h.tie E[i] (List.getElem_mem hi)
    simp only [okAt, List.getElem?_eq_getElem hi, Bool.and_eq_true, decide_eq_true_eq]
    refine ⟨⟨by omega, by omega⟩, ?_⟩
    cases i with
    | zero => rfl
    | succ j =>
      simp only [List.getElem?_eq_getElem (show j < E.length by omega), decide_eq_true_eq]
      exact List.pairwise_iff_getElem.1 h.asc j (j + 1) (by omega) hi (by omega)
def WF (E : List T) : Prop := ∀ t ∈ E, (-9223372036854775808 ≤ t.f0 ∧ t.f0 ≤ 9223372036854775807) ∧ (-9223372036854775808 ≤ t.f1 ∧ t.f1 ≤ 9223372036854775807)
theorem OK.wf {n : Int} {E : List T} (h : OK n E) : WF E := fun t ht => by have := h.tie t ht; have := h.n8; omega
theorem z3 (n : Int) (E : List T) (hE : E.length ≤ 1048576) (hw : WF E) : Ev (fun k => spec_NetOk.f k n E) (dec (OK n E)) := by
  simp only [spec_NetOk.f]
  refine Ev.bind0 (l6In _ _ _) ?_
  by_cases hn : 0 ≤ n ∧ n ≤ 8
  · refine Ev.pos (decide_eq_true hn) ?_
    refine Ev.succ ?_
    simp only [spec_NetOk.j0]
    by_cases hl : (E.length : Int) > 64
    · refine Ev.pos (decide_eq_true hl) ?_
      exact Ev.ff (fun h => by have := h.length; omega) (Ev.now _)
    · refine Ev.neg (by simp only [decide_eq_true_eq]; exact hl) ?_
      exact Ev.dec (z2 n E hn (by omega) (fun t ht => (hw t ht).1) E.length 0 (by omega)) (okAt_iff n E hn)
  · refine Ev.neg (by simp only [decide_eq_true_eq]; exact hn) ?_
    refine Ev.succ ?_
    simp only [spec_NetOk.j0]
    refine Ev.pos trivial ?_
    exact Ev.ff (fun h => hn ⟨h.n0, h.n8⟩) (Ev.now _)
theorem compare (a b : Int) : cmp_Compare_int.f a b = some (if a < b then -1 else if a > b then 1 else 0) := by
  unfold cmp_Compare_int.f cmp_isNaN_int.f
  simp only [bne_self_eq_false, Option.bind_some]
  rw [if_neg (by decide), if_neg (by decide)]
  split
  · rfl
  · split <;> rfl
theorem ev_or2 (x y : Int) : Ev (fun k => cmp_Or_int.f k [x, y]) (if x = 0 then y else x) := by
  simp only [cmp_Or_int.f]
  refine Ev.succ ?_
  simp only [cmp_Or_int.l0, List.length_cons, List.length_nil]
  refine Ev.pos (by decide) (Ev.pos (by decide) (Ev.pos (by simp) ?_))
  have r0 : rd [x, y] 0 = x := rfl
  rw [r0]
  by_cases h : x = 0
  · refine Ev.pos h ?_
    rw [if_pos h]
    refine Ev.succ ?_
    simp only [cmp_Or_int.l0]
    rw [show wrap64 (0 + 1) = 1 from by unfold wrap64; omega]
    refine Ev.pos (by decide) (Ev.pos (by decide) (Ev.pos (by simp) ?_))
    have r1 : rd [x, y] 1 = y := rfl
    rw [r1]
    by_cases k : y = 0
    · refine Ev.pos k ?_
      refine Ev.succ ?_
      simp only [cmp_Or_int.l0]
      rw [show wrap64 (1 + 1) = 2 from by unfold wrap64; omega]
      refine Ev.neg (by decide) ?_
      exact Ev.some_ k.symm
    · exact Ev.neg k (Ev.now _)
  · refine Ev.neg h ?_
    rw [if_neg h]
    exact Ev.now _
theorem z4 (s t : T) : ∃ c : Int, Ev (fun k => impl_tieOrder.f k s.f0 s.f1 t.f0 t.f1) c ∧ (c < 0 ↔ lt s t) := by
  refine ⟨if (if s.f0 < t.f0 then (-1 : Int) else if s.f0 > t.f0 then 1 else 0) = 0 then (if s.f1 < t.f1 then -1 else if s.f1 > t.f1 then 1 else 0) else (if s.f0 < t.f0 then -1 else if s.f0 > t.f0 then 1 else 0), ?_, ?_⟩
  · simp only [impl_tieOrder.f]
    refine Ev.bind0 (compare _ _) (Ev.bind0 (compare _ _) (Ev.bind (ev_or2 _ _) ?_))
    exact Ev.now _
  · unfold lt
    by_cases h1 : s.f0 < t.f0
    · simp only [if_pos h1]
      rw [if_neg (by omega)]
      omega
    · by_cases h2 : s.f0 > t.f0
      · simp only [if_neg h1, if_pos h2]
        rw [if_neg (by omega)]
        omega
      · simp only [if_neg h1, if_neg h2]
        rw [if_pos trivial]
        split
        · omega
        · split <;> omega
theorem z5 (E : List T) (hE : E.length ≤ 1048576) : ∀ (d i : Nat), 0 < i → i + d = E.length → Ev (fun k => impl_ascending.l0 k E i) (AscN (E.drop (i - 1)))
  | 0, i, h0, h => by
    refine Ev.succ ?_
    simp only [impl_ascending.l0]
    refine Ev.neg (by omega) ?_
    refine Ev.some_ ?_
    have : E.drop (i - 1) = [E[i - 1]'(by omega)] := by
      rw [List.drop_eq_getElem_cons (by omega), List.drop_of_length_le (by omega)]
    rw [this]; rfl
  | d + 1, i, h0, h => by
    obtain ⟨j, rfl⟩ : ∃ j, i = j + 1 := ⟨i - 1, by omega⟩
    have hj : j < E.length := by omega
    have hj1 : j + 1 < E.length := by omega
    refine Ev.succ ?_
    simp only [impl_ascending.l0]
    have hw : wrap64 (((j + 1 : Nat) : Int) - 1) = (j : Int) := by rw [w64 (by omega)]; omega
    rw [hw]
    refine Ev.pos (by omega) (Ev.pos (by omega) (Ev.pos (by omega) (Ev.pos (by omega) ?_)))
    rw [rd_T_nat E j hj, rd_T_nat E (j + 1) hj1]
    obtain ⟨c, hc, hlt⟩ := z4 E[j] E[j + 1]
    refine Ev.bind hc ?_
    have hd : E.drop (j + 1 - 1) = E[j] :: E[j + 1] :: E.drop (j + 2) := by
      rw [Nat.add_sub_cancel, List.drop_eq_getElem_cons hj, List.drop_eq_getElem_cons hj1]
    rw [hd]
    simp only [AscN]
    by_cases h4 : c ≥ 0
    · refine Ev.pos h4 (Ev.some_ ?_)
      rw [decide_eq_false (fun k => by have := hlt.2 k; omega)]
      rfl
    · refine Ev.neg h4 ?_
      rw [w64 (by omega)]
      refine Ev.cast (z5 E hE d (j + 2) (by omega) (by omega)) ?_
      rw [decide_eq_true (hlt.1 (by omega)), show j + 2 - 1 = j + 1 from rfl, List.drop_eq_getElem_cons hj1]
      simp
theorem z6 (E : List T) (hE : E.length ≤ 1048576) : Ev (fun k => impl_ascending.f k E) (dec (Asc E)) := by
  simp only [impl_ascending.f]
  rw [← dec_of (ascN_iff E)]
  by_cases h : E.length = 0
  · refine Ev.succ ?_
    simp only [impl_ascending.l0]
    refine Ev.neg (by omega) ?_
    have : E = [] := List.length_eq_zero_iff.1 h
    subst this
    exact Ev.now _
  · have := z5 E hE (E.length - 1) 1 (by omega) (by omega)
    simpa using this
theorem z7 (n : Int) (E : List T) (hE : E.length ≤ 1048576) : ∀ (d i : Nat), i + d = E.length →
    Ev (fun k => impl_NetOk.l0 k E E.length i n E) (dec ((∀ t ∈ E.drop i, 0 ≤ t.f0 ∧ t.f0 < t.f1 ∧ t.f1 < n) ∧ Asc E))
  | 0, i, h => by
    refine Ev.succ ?_
    simp only [impl_NetOk.l0]
    refine Ev.neg (by omega) ?_
    refine Ev.bind (z6 E hE) ?_
    refine Ev.some_ (z0 ?_)
    rw [List.drop_of_length_le (by omega)]
    simp
  | d + 1, i, h => by
    have hi : i < E.length := by omega
    refine Ev.succ ?_
    simp only [impl_NetOk.l0, rd_T_nat E i hi]
    refine Ev.pos (by omega) (Ev.pos (by omega) (Ev.pos (by omega) ?_))
    rw [List.drop_eq_getElem_cons hi]
    by_cases h1 : E[i].f0 < 0
    · exact Ev.pos h1 (Ev.ff (fun a => by have := a.1 E[i] List.mem_cons_self; omega) (Ev.now _))
    · refine Ev.neg h1 ?_
      by_cases h2 : E[i].f0 ≥ E[i].f1
      · exact Ev.pos h2 (Ev.ff (fun a => by have := a.1 E[i] List.mem_cons_self; omega) (Ev.now _))
      · refine Ev.neg h2 ?_
        by_cases h3 : E[i].f1 ≥ n
        · exact Ev.pos h3 (Ev.ff (fun a => by have := a.1 E[i] List.mem_cons_self; omega) (Ev.now _))
        · refine Ev.neg h3 ?_
          rw [w64 (by omega)]
          refine Ev.cast (z7 n E hE d (i + 1) (by omega)) (z0 ?_)
          simp only [List.forall_mem_cons]
          exact ⟨fun a => ⟨⟨by omega, a.1⟩, a.2⟩, fun a => ⟨a.1.2, a.2⟩⟩
theorem z8 (n : Int) (E : List T) (hE : E.length ≤ 1048576) : Ev (fun k => impl_NetOk.f k n E) (dec (OK n E)) := by
  simp only [impl_NetOk.f]
  by_cases h0 : n < 0
  · refine Ev.pos h0 (Ev.succ ?_)
    simp only [impl_NetOk.j0]
    exact Ev.pos trivial (Ev.ff (fun h => by have := h.n0; omega) (Ev.now _))
  · refine Ev.neg h0 (Ev.succ ?_)
    simp only [impl_NetOk.j0]
    by_cases h8 : n > 8
    · exact Ev.pos (decide_eq_true h8) (Ev.ff (fun h => by have := h.n8; omega) (Ev.now _))
    · refine Ev.neg (by simp only [decide_eq_true_eq]; exact h8) ?_
      refine Ev.cast (z7 n E hE E.length 0 (by omega)) (z0 ?_)
      rw [List.drop_zero]
      exact ⟨fun h => ⟨by omega, by omega, h.1, h.2⟩, fun h => ⟨h.tie, h.asc⟩⟩
def tie (a b : Int) : T := if a < b then ⟨a, b⟩ else ⟨b, a⟩
theorem tie_comm (a b : Int) : tie a b = tie b a := by
  unfold tie
  by_cases h : a < b
  · rw [if_pos h, if_neg (by omega)]
  · by_cases k : b < a
    · rw [if_neg h, if_pos k]
    · have : a = b := by omega
      subst this; rfl
theorem l1Tie (a b : Int) : spec_l1Tie.f a b = some ((tie a b).f0, (tie a b).f1) := by
  unfold spec_l1Tie.f tie
  split <;> rfl
def Has (E : List T) (a b : Int) : Prop := tie a b ∈ E
theorem Has.symm {E : List T} {a b : Int} (h : Has E a b) : Has E b a := by unfold Has at *; rw [tie_comm]; exact h
theorem z9 (n : Int) (E : List T) (a b : Int) (hE : E.length ≤ 1048576) : ∀ (d i : Nat), i + d = E.length → Ev (fun k => spec_l1Has.l0 k a b i n E) (dec (tie a b ∈ E.drop i))
  | 0, i, h => by
    refine Ev.succ ?_
    simp only [spec_l1Has.l0]
    refine Ev.neg (by omega) (Ev.ff ?_ (Ev.now _))
    rw [List.drop_of_length_le (by omega)]; simp
  | d + 1, i, h => by
    have hi : i < E.length := by omega
    refine Ev.succ ?_
    simp only [spec_l1Has.l0, rd_T_nat E i hi]
    refine Ev.pos (by omega) (Ev.pos (by omega) (Ev.bind0 (l1Tie a b) ?_))
    rw [List.drop_eq_getElem_cons hi]
    by_cases e : E[i] = tie a b
    · exact Ev.pos (by rw [e]; simp) (Ev.tt (by rw [e]; exact List.mem_cons_self) (Ev.now _))
    · refine Ev.neg (fun k => e ?_) ?_
      · simp only [Bool.and_eq_true, beq_iff_eq] at k
        exact T.ext k.1 k.2
      · rw [w64 (by omega)]
        refine Ev.cast (z9 n E a b hE d (i + 1) (by omega)) (z0 ?_)
        rw [List.mem_cons]
        exact ⟨Or.inr, fun k => k.resolve_left (fun x => e x.symm)⟩
theorem ev_l1Has (n : Int) (E : List T) (a b : Int) (hE : E.length ≤ 1048576) : Ev (fun k => spec_l1Has.f k n E a b) (dec (Has E a b)) := by
  simp only [spec_l1Has.f]
  exact z9 n E a b hE E.length 0 (by omega)
def In (n k : Int) : Prop := 0 ≤ k ∧ k < n
instance (n k : Int) : Decidable (In n k) := inferInstanceAs (Decidable (_ ∧ _))
theorem knot_eq (n : Int) (E : List T) (a : Int) : impl_Net_knot.f n E a = some (dec (In n a)) := by
  unfold impl_Net_knot.f
  by_cases h : a ≥ 0
  · rw [if_pos h]; congr 1; exact dec_of (by unfold In; rw [decide_eq_true_iff]; omega)
  · rw [if_neg h]; congr 1; exact (dec_f (by unfold In; omega)).symm
theorem z10 (n : Int) (E : List T) (a : Int) (hE : E.length ≤ 1048576) (hw : WF E) : Ev (fun k => spec_l1Knot.f k n E a) (dec (OK n E ∧ In n a)) := by
  simp only [spec_l1Knot.f]
  refine Ev.bind (z3 n E hE hw) ?_
  by_cases h : OK n E
  · have := h.n0
    have := h.n8
    refine Ev.pos (dec_t h) ?_
    rw [w64 (by omega)]
    refine Ev.bind0 (l6In _ _ _) (Ev.some_ (dec_of ?_))
    rw [decide_eq_true_iff]
    unfold In
    exact ⟨fun k => ⟨h, by omega⟩, fun k => by omega⟩
  · exact Ev.neg (by rw [dec_f h]; simp) (Ev.ff (fun k => h k.1) (Ev.now _))
theorem z11 (n : Int) (E : List T) (a b : Int) (hE : E.length ≤ 1048576) (hw : WF E) : Ev (fun k => spec_NetHas.f k n E a b) (dec (OK n E ∧ Has E a b)) := by
  simp only [spec_NetHas.f]
  refine Ev.bind (z3 n E hE hw) ?_
  by_cases h : OK n E
  · exact Ev.pos (dec_t h) (Ev.bind (ev_l1Has n E a b hE) (Ev.some_ (z0 ⟨fun k => ⟨h, k⟩, fun k => k.2⟩)))
  · exact Ev.neg (by rw [dec_f h]; simp) (Ev.ff (fun k => h k.1) (Ev.now _))
theorem OK.has {n : Int} {E : List T} (h : OK n E) {a b : Int} (hab : Has E a b) : In n a ∧ In n b ∧ a ≠ b := by
  have := h.tie _ hab
  unfold Th.tie at this
  unfold In
  split at this <;> simp only at this <;> omega
def ks (n : Int) : List Int := (List.range n.toNat).map (fun i : Nat => (i : Int))
theorem mem_ks {n k : Int} : k ∈ ks n ↔ 0 ≤ k ∧ k < n := by
  unfold ks
  simp only [List.mem_map, List.mem_range]
  exact ⟨fun ⟨i, h, e⟩ => by omega, fun h => ⟨k.toNat, by omega, by omega⟩⟩
theorem z12 (n : Int) : (ks n).length = n.toNat := by simp [ks]
theorem z13 (n : Int) (i : Nat) (h : i < (ks n).length) : (ks n)[i] = (i : Int) := by simp [ks]
theorem z14 (n : Int) : (ks n).Pairwise (· < ·) := by
  refine List.pairwise_iff_getElem.2 (fun i j hi hj h => ?_)
  rw [z13, z13]; omega
theorem ks_nodup (n : Int) : (ks n).Nodup := (z14 n).imp (fun h => by omega)
def ksFrom (n j : Int) : List Int := (ks n).drop j.toNat
theorem z15 (n : Int) : ksFrom n 0 = ks n := by simp [ksFrom]
theorem z16 {n j : Int} (h : n ≤ j) : ksFrom n j = [] := by
  unfold ksFrom
  exact List.drop_of_length_le (by rw [z12]; omega)
theorem z17 {n j : Int} (h0 : 0 ≤ j) (h : j < n) : ksFrom n j = j :: ksFrom n (j + 1) := by
  unfold ksFrom
  rw [List.drop_eq_getElem_cons (by rw [z12]; omega), z13]
  rw [show (j + 1).toNat = j.toNat + 1 by omega]
  congr 1
  omega
theorem ks_split {n j : Int} (h0 : 0 ≤ j) (h : j < n) : ks n = ks j ++ j :: ksFrom n (j + 1) := by
  have : ks j = (ks n).take j.toNat := by
    unfold ks
    rw [← List.map_take, List.take_range, Nat.min_eq_left (by omega)]
  rw [this, ← z17 h0 h, ksFrom, List.take_append_drop]
theorem ks_succ {j : Int} (h0 : 0 ≤ j) : ks (j + 1) = ks j ++ [j] := by
  rw [ks_split h0 (by omega : j < j + 1), z16 (by omega)]
theorem rd_i (l : List Int) (x : Int) (h : 0 ≤ x) (k : x < l.length) : rd l x = l[x.toNat]'(by omega) := by
  simp [rd, List.getD_eq_getElem?_getD, List.getElem?_eq_getElem (show x.toNat < l.length by omega)]
theorem rd_set (l : List Int) (i j x : Int) (h : 0 ≤ i) (k : i < l.length) (hj : 0 ≤ j) : rd (l.set i.toNat x) j = if j = i then x else rd l j := by
  unfold rd
  simp only [List.getD_eq_getElem?_getD]
  by_cases e : j = i
  · subst e
    rw [List.getElem?_set_self (by omega), if_pos rfl]; rfl
  · rw [if_neg e, List.getElem?_set_ne (by omega)]
theorem rd_mapks (n : Int) (f : Int → Int) (x : Int) (h : 0 ≤ x) (k : x < n) : rd ((ks n).map f) x = f x := by
  rw [rd_i _ _ h (by rw [List.length_map, z12]; omega), List.getElem_map, z13]
  congr 1; omega
def falses : List Bool → Nat
  | [] => 0
  | b :: l => (if b then 0 else 1) + falses l
theorem z18 : ∀ (l : List Bool) (i : Nat) (h : i < l.length), l[i] = false → falses (l.set i true) + 1 = falses l
  | [], i, h, _ => by simp at h
  | a :: l, 0, h, e => by
    simp only [List.getElem_cons_zero] at e
    subst e
    simp [falses]; omega
  | a :: l, i + 1, h, e => by
    have h' : i < l.length := by simpa using h
    have := z18 l i h' (by simpa using e)
    simp only [List.set_cons_succ, falses]
    omega
theorem z19 : ∀ l : List Bool, falses l ≤ l.length
  | [] => by simp [falses]
  | b :: l => by have := z19 l; simp only [falses, List.length_cons]; split <;> omega
theorem all_loop {L : Nat → Nat → Option Bool} (len : Nat) (p : Nat → Prop) (hend : Ev (fun k => L k len) true) (hyes : ∀ i, i < len → p i → ∀ b, Ev (fun k => L k (i + 1)) b → Ev (fun k => L k i) b)
    (hno : ∀ i, i < len → ¬ p i → Ev (fun k => L k i) false) : ∀ d i, i + d = len → Ev (fun k => L k i) (dec (∀ j, i ≤ j → j < len → p j))
  | 0, i, h => by
    obtain rfl : i = len := by omega
    exact Ev.tt (fun j h1 h2 => by omega) hend
  | d + 1, i, h => by
    by_cases hp : p i
    · refine Ev.cast (hyes i (by omega) hp _ (all_loop len p hend hyes hno d (i + 1) (by omega))) (z0 ?_)
      constructor
      · intro a j h1 h2
        by_cases e : j = i
        · subst e; exact hp
        · exact a j (by omega) h2
      · intro a j h1 h2; exact a j (by omega) h2
    · exact Ev.ff (fun a => hp (a i (Nat.le_refl _) (by omega))) (hno i (by omega) hp)
theorem any_loop {L : Nat → Nat → Option Bool} (len : Nat) (p : Nat → Prop) (hend : Ev (fun k => L k len) false) (hno : ∀ i, i < len → ¬ p i → ∀ b, Ev (fun k => L k (i + 1)) b → Ev (fun k => L k i) b)
    (hyes : ∀ i, i < len → p i → Ev (fun k => L k i) true) : ∀ d i, i + d = len → Ev (fun k => L k i) (dec (∃ j, i ≤ j ∧ j < len ∧ p j))
  | 0, i, h => by
    obtain rfl : i = len := by omega
    exact Ev.ff (fun ⟨j, h1, h2, _⟩ => by omega) hend
  | d + 1, i, h => by
    by_cases hp : p i
    · exact Ev.tt ⟨i, Nat.le_refl _, by omega, hp⟩ (hyes i (by omega) hp)
    · refine Ev.cast (hno i (by omega) hp _ (any_loop len p hend hno hyes d (i + 1) (by omega))) (z0 ?_)
      constructor
      · rintro ⟨j, h1, h2, h3⟩; exact ⟨j, by omega, h2, h3⟩
      · rintro ⟨j, h1, h2, h3⟩
        by_cases e : j = i
        · subst e; exact absurd h3 hp
        · exact ⟨j, by omega, h2, h3⟩
theorem z20 (l : List Int) (i : Nat) (h : i < l.length) : rd l (i : Int) = l[i] := by
  rw [rd_nat, List.getD_eq_getElem?_getD, List.getElem?_eq_getElem h, Option.getD_some]
theorem z21 (l : List Int) (x : Int) : x ∈ l ↔ ∃ j, 0 ≤ j ∧ j < l.length ∧ rd l (j : Int) = x := by
  rw [List.mem_iff_getElem]
  constructor
  · rintro ⟨j, h, e⟩; exact ⟨j, Nat.zero_le _, h, by rw [z20 l j h]; exact e⟩
  · rintro ⟨j, _, h, e⟩; exact ⟨j, h, by rw [← z20 l j h]; exact e⟩
inductive Conn (E : List T) : Int → Int → Prop
  | refl (a : Int) : Conn E a a
  | step {a b c : Int} : Conn E a b → Has E b c → Conn E a c
theorem Conn.one {E : List T} {a b : Int} (h : Has E a b) : Conn E a b := .step (.refl a) h
theorem Conn.trans {E : List T} {a b c : Int} (h : Conn E a b) (k : Conn E b c) : Conn E a c := by
  induction k with
  | refl => exact h
  | step _ m ih => exact .step ih m
theorem Conn.symm {E : List T} {a b : Int} (h : Conn E a b) : Conn E b a := by
  induction h with
  | refl => exact .refl _
  | step _ m ih => exact (Conn.one m.symm).trans ih
theorem Conn.mono {E F : List T} (h : ∀ t, t ∈ E → t ∈ F) {a b : Int} (k : Conn E a b) : Conn F a b := by
  induction k with
  | refl => exact .refl _
  | step _ m ih => exact .step ih (h _ m)
theorem Conn.keeps {E : List T} {P : Int → Prop} (h : ∀ a b, Has E a b → P a → P b) {a b : Int} (k : Conn E a b) (ha : P a) : P b := by
  induction k with
  | refl => exact ha
  | step _ m ih => exact h _ _ m ih
theorem Conn.inNet {n : Int} {E : List T} (h : OK n E) {a b : Int} (k : Conn E a b) (ha : In n a) : In n b := k.keeps (fun _ _ m _ => (h.has m).2.1) ha
theorem Conn.first {E : List T} {a b : Int} (h : Conn E a b) : a = b ∨ ∃ c, Has E a c ∧ Conn E c b := by
  induction h with
  | refl => exact Or.inl rfl
  | step m hb ih =>
    rcases ih with rfl | ⟨c, h1, h2⟩
    · exact Or.inr ⟨_, hb, .refl _⟩
    · exact Or.inr ⟨c, h1, .step h2 hb⟩
theorem tie_self {n : Int} {E : List T} (h : OK n E) {t : T} (ht : t ∈ E) : tie t.f0 t.f1 = t := by
  have := h.tie t ht
  unfold tie
  rw [if_pos (by omega)]
theorem z22 {n : Int} {E : List T} (h : OK n E) {t : T} (ht : t ∈ E) : Has E t.f0 t.f1 := by
  unfold Has; rw [tie_self h ht]; exact ht
theorem tie_ends {a b : Int} {t : T} (e : tie a b = t) : (a = t.f0 ∧ b = t.f1) ∨ (a = t.f1 ∧ b = t.f0) := by
  unfold tie at e
  split at e <;> subst e
  · exact Or.inl ⟨rfl, rfl⟩
  · exact Or.inr ⟨rfl, rfl⟩
theorem tie_inj {a b c d : Int} (h : tie a b = tie c d) : (a = c ∧ b = d) ∨ (a = d ∧ b = c) := by
  unfold tie at h
  split at h <;> split at h <;> simp only [S52.mk.injEq] at h <;> omega
theorem OK.filter {n : Int} {E : List T} (h : OK n E) (p : T → Bool) : OK n (E.filter p) :=
  ⟨h.n0, h.n8, fun t ht => h.tie t (List.mem_filter.1 ht).1, h.asc.filter p⟩
theorem OK.nil {n : Int} (h0 : 0 ≤ n) (h8 : n ≤ 8) : OK n [] := ⟨h0, h8, by simp, List.Pairwise.nil⟩
noncomputable def less (E : List T) (p : T → Prop) : List T := E.filter (fun t => !dec (p t))
theorem mem_less {E : List T} {p : T → Prop} {t : T} : t ∈ less E p ↔ t ∈ E ∧ ¬ p t := by
  unfold less
  rw [List.mem_filter]
  by_cases h : p t
  · rw [dec_t h]; simp [h]
  · rw [dec_f h]; simp [h]
theorem OK.less {n : Int} {E : List T} (h : OK n E) (p : T → Prop) : OK n (less E p) := h.filter _
theorem z23 {E : List T} {p q : T → Prop} (h : ∀ t ∈ E, p t ↔ q t) : less E p = less E q := by
  unfold less
  refine List.filter_congr (fun t ht => ?_)
  rw [z0 (h t ht)]
theorem z24 {E : List T} {p : T → Prop} (h : ∀ t ∈ E, ¬ p t) : less E p = E := by
  unfold less
  refine List.filter_eq_self.2 (fun t ht => ?_)
  rw [dec_f (h t ht)]; rfl
theorem z25 (E : List T) (p q : T → Prop) : less (less E p) q = less E (fun t => p t ∨ q t) := by
  unfold less
  rw [List.filter_filter]
  refine List.filter_congr (fun t _ => ?_)
  by_cases h : p t
  · rw [dec_t h, dec_t (Or.inl h : p t ∨ q t)]; simp
  · by_cases k : q t
    · rw [dec_t k, dec_t (Or.inr k : p t ∨ q t)]; simp
    · rw [dec_f h, dec_f k, dec_f (not_or.2 ⟨h, k⟩ : ¬ (p t ∨ q t))]; simp
abbrev AtK (k : Int) (t : T) : Prop := t.f0 = k ∨ t.f1 = k
noncomputable abbrev lessK (E : List T) (k : Int) : List T := less E (AtK k)
theorem z26 {t : T} {E : List T} {p : T → Prop} (h : p t) : less (t :: E) p = less E p := by
  unfold less
  rw [List.filter_cons_of_neg (p := fun t => !dec (p t)) (by rw [dec_t h]; simp)]
theorem z27 {t : T} {E : List T} {p : T → Prop} (h : ¬ p t) : less (t :: E) p = t :: less E p := by
  unfold less
  rw [List.filter_cons_of_pos (p := fun t => !dec (p t)) (by rw [dec_f h]; rfl)]
def Walk (R : Int → Int → Prop) : List Int → Prop
  | [] => True
  | [_] => True
  | a :: b :: l => R a b ∧ Walk R (b :: l)
theorem walk_iff (R : Int → Int → Prop) : ∀ w : List Int, Walk R w ↔ ∀ j : Nat, j + 1 < w.length → R (rd w (j : Int)) (rd w ((j + 1 : Nat) : Int))
  | [] => by simp [Walk]
  | [_] => by simp [Walk]
  | a :: b :: l => by
    rw [Walk, walk_iff R (b :: l)]
    constructor
    · rintro ⟨h, k⟩ j hj
      cases j with
      | zero => simpa [rd] using h
      | succ j =>
        have := k j (by simp at hj ⊢; omega)
        rw [rd_nat, rd_nat] at this ⊢
        simpa using this
    · intro h
      refine ⟨by simpa [rd] using h 0 (by simp), fun j hj => ?_⟩
      have := h (j + 1) (by simp at hj ⊢; omega)
      rw [rd_nat, rd_nat] at this ⊢
      simpa using this
theorem nodup_iff (w : List Int) : w.Nodup ↔ ∀ j : Nat, j < w.length → rd w (j : Int) ∉ w.take j := by
  unfold List.Nodup
  rw [List.pairwise_iff_getElem]
  constructor
  · intro h j hj hm
    rw [z20 w j hj] at hm
    obtain ⟨i, hi, e⟩ := List.mem_iff_getElem.1 hm
    have hi' : i < j := by simp at hi; omega
    exact h i j (by omega) hj hi' (by simpa using e)
  · intro h i j hi hj hij e
    refine h j hj ?_
    rw [z20 w j hj, ← e]
    exact List.mem_iff_getElem.2 ⟨i, by simp; omega, by simp⟩
structure IsWay (n : Int) (E : List T) (w : List Int) : Prop where
  ne : w ≠ []
  inn : ∀ v ∈ w, In n v
  nd : w.Nodup
  walk : Walk (Has E) w
def WayAt (n : Int) (E : List T) (w : List Int) (j : Nat) : Prop := In n (rd w (j : Int)) ∧ rd w (j : Int) ∉ w.take j ∧ (0 < j → Has E (rd w ((j - 1 : Nat) : Int)) (rd w (j : Int)))
theorem z28 (n : Int) (E : List T) (w : List Int) : IsWay n E w ↔ w ≠ [] ∧ ∀ j, 0 ≤ j → j < w.length → WayAt n E w j := by
  constructor
  · intro h
    refine ⟨h.ne, fun j _ hj => ⟨h.inn _ (by rw [z20 w j hj]; exact List.getElem_mem hj), (nodup_iff w).1 h.nd j hj, fun h0 => ?_⟩⟩
    have := (walk_iff _ w).1 h.walk (j - 1) (by omega)
    rwa [show j - 1 + 1 = j by omega] at this
  · rintro ⟨h0, h⟩
    refine ⟨h0, fun v hv => ?_, (nodup_iff w).2 fun j hj => (h j (Nat.zero_le _) hj).2.1, (walk_iff _ w).2 fun j hj => ?_⟩
    · obtain ⟨j, _, hj, rfl⟩ := (z21 w v).1 hv
      exact (h j (Nat.zero_le _) hj).1
    · exact (h (j + 1) (Nat.zero_le _) hj).2.2 (by omega)
def Leads (n : Int) (E : List T) (a b : Int) (w : List Int) : Prop := OK n E ∧ IsWay n E w ∧ rd w 0 = a ∧ rd w ((w.length : Int) - 1) = b
theorem Leads.pos {n : Int} {E : List T} {a b : Int} {w : List Int} (h : Leads n E a b w) : 0 < w.length := List.length_pos_iff.2 h.2.1.ne
theorem Leads.two {n : Int} {E : List T} {a b : Int} {w : List Int} (h : Leads n E a b w) (hab : a ≠ b) : 2 ≤ w.length := by
  have h0 := h.pos
  by_cases h1 : w.length = 1
  · exact absurd (by rw [← h.2.2.1, ← h.2.2.2, h1]; rfl) hab
  · omega
def Apart (x y : List Int) : Prop := ¬ (x.length = 2 ∧ y.length = 2) ∧ ∀ i : Nat, 1 ≤ i → i + 1 < x.length → rd x (i : Int) ∉ y
def Two (n : Int) (E : List T) (a b : Int) (x y : List Int) : Prop := a ≠ b ∧ Leads n E a b x ∧ Leads n E a b y ∧ Apart x y
theorem z29 (R : Int → Int → Prop) (a b : Int) (l : List Int) : Walk R (a :: b :: l) ↔ R a b ∧ Walk R (b :: l) := Iff.rfl
theorem walk_app (R : Int → Int → Prop) : ∀ (A : List Int) (k : Int) (B : List Int), Walk R (A ++ k :: B) ↔ Walk R (A ++ [k]) ∧ Walk R (k :: B)
  | [], k, B => by simp [Walk]
  | [a], k, B => by simp [Walk]
  | a :: b :: A, k, B => by
    have := walk_app R (b :: A) k B
    simp only [List.cons_append, z29] at this ⊢
    rw [this, and_assoc]
theorem z30 {R S : Int → Int → Prop} (h : ∀ a b, R a b → S a b) : ∀ w : List Int, Walk R w → Walk S w
  | [], _ => trivial
  | [_], _ => trivial
  | _ :: b :: l, k => ⟨h _ _ k.1, z30 h (b :: l) k.2⟩
theorem walk_rev {R : Int → Int → Prop} (hs : ∀ a b, R a b → R b a) : ∀ w : List Int, Walk R w → Walk R w.reverse
  | [], _ => trivial
  | [_], _ => trivial
  | a :: b :: l, k => by
    have ih := walk_rev hs (b :: l) k.2
    rw [List.reverse_cons] at ih ⊢
    rw [List.reverse_cons, List.append_assoc, List.singleton_append]
    exact (walk_app R _ _ _).2 ⟨ih, hs _ _ k.1, trivial⟩
def es : List Int → List T
  | [] => []
  | [_] => []
  | a :: b :: l => tie a b :: es (b :: l)
theorem es_app : ∀ (A : List Int) (k : Int) (B : List Int), es (A ++ k :: B) = es (A ++ [k]) ++ es (k :: B)
  | [], k, B => by simp [es]
  | [a], k, B => by simp [es]
  | a :: b :: A, k, B => by
    have := es_app (b :: A) k B
    simp only [List.cons_append, es] at this ⊢
    rw [this]
theorem z31 : ∀ (w : List Int) (t : T), t ∈ es w.reverse ↔ t ∈ es w
  | [], t => by simp
  | [_], t => by simp
  | a :: b :: l, t => by
    have ih := z31 (b :: l) t
    rw [List.reverse_cons] at ih ⊢
    rw [List.reverse_cons, List.append_assoc, List.singleton_append, es_app, List.mem_append, ih]
    simp only [es, List.mem_cons, List.not_mem_nil, or_false]
    rw [tie_comm b a]
    exact Or.comm
theorem mem_es {t : T} : ∀ {w : List Int}, t ∈ es w → ∃ A k x B, w = A ++ k :: x :: B ∧ tie k x = t
  | [], h => by simp [es] at h
  | [_], h => by simp [es] at h
  | a :: b :: l, h => by
    simp only [es, List.mem_cons] at h
    rcases h with h | h
    · exact ⟨[], a, b, l, rfl, h.symm⟩
    · obtain ⟨A, k, x, B, e, ht⟩ := mem_es (w := b :: l) h
      exact ⟨a :: A, k, x, B, by rw [e]; rfl, ht⟩
theorem walk_es {E : List T} : ∀ {w : List Int}, Walk (Has E) w ↔ ∀ t ∈ es w, t ∈ E
  | [] => by simp [Walk, es]
  | [_] => by simp [Walk, es]
  | a :: b :: l => by
    rw [z29, walk_es (w := b :: l)]
    simp only [es, List.mem_cons, forall_eq_or_imp]
    exact Iff.rfl
structure Path (E : List T) (a b : Int) (w : List Int) : Prop where
  nd : w.Nodup
  walk : Walk (Has E) w
  hd : w.head? = some a
  lst : w.getLast? = some b
theorem Path.mono {E F : List T} (h : ∀ t, t ∈ E → t ∈ F) {a b : Int} {w : List Int} (p : Path E a b w) : Path F a b w := ⟨p.nd, z30 (fun _ _ k => h _ k) w p.walk, p.hd, p.lst⟩
theorem Path.rev {E : List T} {a b : Int} {w : List Int} (p : Path E a b w) : Path E b a w.reverse :=
  ⟨List.pairwise_reverse.2 (p.nd.imp fun h => h.symm), walk_rev (fun _ _ k => k.symm) _ p.walk, by rw [List.head?_reverse]; exact p.lst, by rw [List.getLast?_reverse]; exact p.hd⟩
theorem Path.ne {E : List T} {a b : Int} {w : List Int} (p : Path E a b w) : w ≠ [] := by
  rintro rfl; have := p.hd; simp at this
theorem Path.memA {E : List T} {a b : Int} {w : List Int} (p : Path E a b w) : a ∈ w := List.mem_of_mem_head? (by rw [p.hd]; rfl)
theorem Path.memB {E : List T} {a b : Int} {w : List Int} (p : Path E a b w) : b ∈ w := List.mem_of_getLast? p.lst
theorem Path.single (E : List T) (a : Int) : Path E a a [a] := ⟨by simp, trivial, rfl, rfl⟩
theorem Path.cons_eq {E : List T} {a b : Int} {w : List Int} (p : Path E a b w) : ∃ r, w = a :: r := by
  cases w with
  | nil => exact absurd rfl p.ne
  | cons x r => have := p.hd; simp at this; exact ⟨r, by rw [this]⟩
theorem Path.drop {E : List T} {a b k : Int} {A B : List Int} (p : Path E a b (A ++ k :: B)) : Path E k b (k :: B) :=
  ⟨(List.nodup_append.1 p.nd).2.1, ((walk_app _ _ _ _).1 p.walk).2, rfl, by have := p.lst; rw [List.getLast?_append] at this; simpa using this⟩
theorem Path.take {E : List T} {a b k : Int} {A B : List Int} (p : Path E a b (A ++ k :: B)) : Path E a k (A ++ [k]) := by
  refine ⟨?_, ((walk_app _ _ _ _).1 p.walk).1, ?_, by simp⟩
  · have := p.nd
    rw [List.nodup_append] at this ⊢
    refine ⟨this.1, by simp, fun x hx y hy => ?_⟩
    simp only [List.mem_singleton] at hy
    subst hy
    exact this.2.2 x hx y (by simp)
  · have := p.hd
    cases A <;> simpa using this
theorem Path.consP {E : List T} {k a b : Int} {w : List Int} (p : Path E a b w) (h : Has E k a) (hk : k ∉ w) : Path E k b (k :: w) := by
  obtain ⟨r, rfl⟩ := p.cons_eq
  exact ⟨List.nodup_cons.2 ⟨hk, p.nd⟩, ⟨h, p.walk⟩, rfl, by have := p.lst; simpa using this⟩
theorem Path.append {E : List T} {a k b : Int} {A B : List Int} (p : Path E a k (A ++ [k])) (q : Path E k b (k :: B)) (h : ∀ x ∈ A, x ∉ B) : Path E a b (A ++ k :: B) := by
  refine ⟨?_, (walk_app _ _ _ _).2 ⟨p.walk, q.walk⟩, ?_, ?_⟩
  · rw [List.nodup_append]
    have hp := List.nodup_append.1 p.nd
    refine ⟨hp.1, q.nd, fun x hx y hy e => ?_⟩
    subst e
    rcases List.mem_cons.1 hy with rfl | hy
    · exact hp.2.2 x hx x (by simp) rfl
    · exact h x hx hy
  · have := p.hd
    cases A <;> simpa using this
  · have := q.lst
    rw [List.getLast?_append]
    simpa using this
theorem Path.conn {E : List T} : ∀ {w : List Int} {a b : Int}, Path E a b w → Conn E a b
  | [], a, b, p => absurd rfl p.ne
  | [x], a, b, p => by
    have h := p.hd; have l := p.lst
    simp at h l
    subst h; subst l
    exact .refl _
  | x :: y :: r, a, b, p => by
    have h := p.hd
    simp at h
    subst h
    have q : Path E y b (y :: r) := Path.drop (A := [x]) p
    exact (Conn.one p.walk.1).trans q.conn
theorem Path.conn_mem {E : List T} {w : List Int} {a b : Int} (p : Path E a b w) {x : Int} (hx : x ∈ w) : Conn E a x := by
  obtain ⟨A, B, rfl⟩ := List.append_of_mem hx
  exact p.take.conn
theorem Conn.path {E : List T} {a b : Int} (h : Conn E a b) : ∃ w, Path E a b w := by
  induction h with
  | refl => exact ⟨_, Path.single _ _⟩
  | step _ m ih =>
    rename_i c d _
    obtain ⟨w, p⟩ := ih
    by_cases hd : d ∈ w
    · obtain ⟨A, B, rfl⟩ := List.append_of_mem hd
      exact ⟨_, p.take⟩
    · have := (p.rev.consP m.symm (by simpa using hd)).rev
      exact ⟨_, this⟩
theorem Path.off {E : List T} {a b v : Int} {w : List Int} (p : Path E a b w) (hv : v ∉ w) : Path (lessK E v) a b w := by
  refine ⟨p.nd, walk_es.2 (fun t ht => mem_less.2 ⟨walk_es.1 p.walk t ht, fun hk => ?_⟩), p.hd, p.lst⟩
  obtain ⟨A, k, x, B, rfl, rfl⟩ := mem_es ht
  have h1 : k ∈ A ++ k :: x :: B := by simp
  have h2 : x ∈ A ++ k :: x :: B := by simp
  rcases tie_ends (rfl : tie k x = tie k x) with ⟨e1, e2⟩ | ⟨e1, e2⟩ <;> rcases hk with hk | hk
  · exact hv (by rw [← hk, ← e1]; exact h1)
  · exact hv (by rw [← hk, ← e2]; exact h2)
  · exact hv (by rw [← hk, ← e2]; exact h2)
  · exact hv (by rw [← hk, ← e1]; exact h1)
theorem z32 {E : List T} {a b v : Int} {w : List Int} (p : Path (lessK E v) a b w) (ha : a ≠ v) : v ∉ w := by
  intro hv
  have hc := p.conn_mem hv
  rcases hc.symm.first with e | ⟨c, h, _⟩
  · exact ha e.symm
  · have := (mem_less.1 h).2
    refine this ?_
    rcases tie_ends (rfl : tie v c = tie v c) with ⟨e1, _⟩ | ⟨e1, _⟩
    · exact Or.inl e1.symm
    · exact Or.inr e1.symm
theorem z33 {E : List T} {a b v : Int} (h : Conn (lessK E v) a b) (ha : a ≠ v) : b ≠ v := by
  rintro rfl
  obtain ⟨w, p⟩ := h.path
  exact z32 p ha p.memB
def On (t : T) (x : Int) : Prop := x = t.f0 ∨ x = t.f1
theorem on_tie {a b x : Int} : On (tie a b) x ↔ x = a ∨ x = b := by
  unfold On tie
  split
  · exact Iff.rfl
  · exact Or.comm
def Bl (E : List T) (s t : T) : Prop := ∀ v, ∃ x y, On s x ∧ x ≠ v ∧ On t y ∧ y ≠ v ∧ Conn (lessK E v) x y
theorem on_conn {n : Int} {E : List T} (h : OK n E) {t : T} (ht : t ∈ E) {v x y : Int} (hx : On t x) (hxv : x ≠ v) (hy : On t y) (hyv : y ≠ v) : Conn (lessK E v) x y := by
  by_cases e : x = y
  · subst e; exact .refl _
  · have hm : t ∈ lessK E v := by
      refine mem_less.2 ⟨ht, fun k => ?_⟩
      rcases hx with rfl | rfl <;> rcases hy with rfl | rfl <;> rcases k with k | k <;> first | exact e rfl | exact hxv k | exact hyv k
    have hh := z22 (h.less (AtK v)) hm
    rcases hx with rfl | rfl <;> rcases hy with rfl | rfl
    · exact .refl _
    · exact .one hh
    · exact .one hh.symm
    · exact .refl _
theorem Bl.refl {n : Int} {E : List T} (h : OK n E) {t : T} (ht : t ∈ E) : Bl E t t := fun v => by
  have := h.tie t ht
  by_cases e : t.f0 = v
  · exact ⟨t.f1, t.f1, Or.inr rfl, by omega, Or.inr rfl, by omega, .refl _⟩
  · exact ⟨t.f0, t.f0, Or.inl rfl, e, Or.inl rfl, e, .refl _⟩
def Side (E : List T) (s t : T) : Prop := ∃ k x y, s = tie k x ∧ t = tie k y ∧ x ≠ k ∧ y ≠ k ∧ Conn (lessK E k) x y
inductive Chain (E : List T) (s : T) : T → Prop
  | refl : Chain E s s
  | step {t u : T} : Chain E s t → u ∈ E → Side E t u → Chain E s u
theorem z34 {n : Int} {E : List T} (h : OK n E) {s t : T} (hs : s ∈ E) (ht : t ∈ E) (hb : Bl E s t) {y : Int} (hy : On t y) :
    ∀ (B A : List Int) (k p x0 : Int) (e : T), Path E x0 y (A ++ k :: B) → On s x0 → Chain E s e → e = tie k p → p ≠ k → (∀ x, On s x → x ≠ k → Conn (lessK E k) x p) → Chain E s t
  | [], A, k, p, x0, e, P, hx0, hc, he, hp, hpre => by
    have hk : k = y := by have := P.lst; simpa using this
    subst hk
    -- t itself is the last one
    obtain ⟨q, hq, hqk⟩ : ∃ q, t = tie k q ∧ q ≠ k := by
      have := h.tie t ht
      rcases hy with e | e
      · exact ⟨t.f1, by rw [e, tie_self h ht], by omega⟩
      · exact ⟨t.f0, by rw [e, tie_comm, tie_self h ht], by omega⟩
    obtain ⟨x', y', a, b, c, d, f⟩ := hb k
    have hyq : y' = q := by
      rw [hq] at c
      rcases on_tie.1 c with c | c
      · exact absurd c d
      · exact c
    subst hyq
    exact .step hc ht ⟨k, p, y', he, hq, hp, hqk, (hpre x' a b).symm.trans f⟩
  | q :: B, A, k, p, x0, e, P, hx0, hc, he, hp, hpre => by
    have hw := P.walk
    have hkq : Has E k q := ((walk_app _ _ _ _).1 hw).2.1
    have hne := h.has hkq
    have P' : Path E x0 y ((A ++ [k]) ++ q :: B) := by simpa using P
    -- behind k the path leads on to t
    have hpost : Path (lessK E k) q y (q :: B) := P'.drop.off (by
      have := (List.nodup_append.1 P.nd).2.1
      exact (List.nodup_cons.1 this).1)
    obtain ⟨x', y', a, b, c, d, f⟩ := hb k
    have hyk : y ≠ k := z33 hpost.conn hne.2.2.symm
    have hq' : Conn (lessK E k) y' q := (on_conn h ht c d hy hyk).trans hpost.conn.symm
    have hside : Side E e (tie k q) := ⟨k, p, q, he, rfl, hp, hne.2.2.symm, (hpre x' a b).symm.trans (f.trans hq')⟩
    refine z34 h hs ht hb hy B (A ++ [k]) q k x0 (tie k q) P' hx0 (.step hc hkq hside) (tie_comm _ _) hne.2.2 (fun x hx hxq => ?_)
    -- ahead of q the path comes from s
    have hpre2 : Path (lessK E q) x0 k (A ++ [k]) := P.take.off (by
      have := P'.nd
      rw [List.nodup_append] at this
      exact fun m => this.2.2 q m q (by simp) rfl)
    have hx0q : x0 ≠ q := fun e => by
      have h1 := hpre2.memA
      have := P'.nd
      rw [List.nodup_append] at this
      exact this.2.2 x0 h1 q (by simp) e
    exact (on_conn h hs hx hxq hx0 hx0q).trans hpre2.conn
theorem Bl.chain {n : Int} {E : List T} (h : OK n E) {s t : T} (hs : s ∈ E) (ht : t ∈ E) (hb : Bl E s t) : Chain E s t := by
  obtain ⟨x, y, hx, _, hy, _, hc⟩ := hb (-1)
  obtain ⟨w, P⟩ := (hc.mono fun t ht => (mem_less.1 ht).1).path
  obtain ⟨r, rfl⟩ := P.cons_eq
  obtain ⟨p, hp, hpx⟩ : ∃ p, s = tie x p ∧ p ≠ x := by
    have := h.tie s hs
    rcases hx with e | e
    · exact ⟨s.f1, by rw [e, tie_self h hs], by omega⟩
    · exact ⟨s.f0, by rw [e, tie_comm, tie_self h hs], by omega⟩
  refine z34 h hs ht hb hy r [] x p x s P hx .refl hp hpx (fun x' hx' hne => ?_)
  rw [hp] at hx'
  rcases on_tie.1 hx' with e | e
  · exact absurd e hne
  · subst e; exact .refl _
def CC (E : List T) (t s : T) : Prop := s = t ∨ ∃ w, Path (less E (· = t)) t.f0 t.f1 w ∧ s ∈ es w
theorem z35 {E : List T} {a b : Int} {w : List Int} {s : T} (p : Path E a b w) (h : s ∈ es w) : s ∈ E := walk_es.1 p.walk s h
theorem CC.bl {n : Int} {E : List T} (h : OK n E) {s t : T} (ht : t ∈ E) (c : CC E t s) : Bl E t s := by
  rcases c with rfl | ⟨w, p, hs⟩
  · exact Bl.refl h ht
  intro v
  have hte := h.tie t ht
  have pE : Path E t.f0 t.f1 w := p.mono fun _ hm => (mem_less.1 hm).1
  obtain ⟨A, k, x, B, rfl, rfl⟩ := mem_es hs
  have hnd := pE.nd
  by_cases hv : v ∈ A ++ k :: x :: B
  · -- v on it: ahead of the tie, on it, behind it
    have hnd' := List.nodup_append.1 hnd
    by_cases hA : v ∈ A ++ [k]
    · -- x and all behind it are free of v
      have hxB : v ∉ x :: B := fun m => by
        have h2 : ((A ++ [k]) ++ x :: B).Nodup := by simpa using hnd
        exact (List.nodup_append.1 h2).2.2 v hA v m rfl
      have q : Path E x t.f1 (x :: B) := Path.drop (A := A ++ [k]) (by simpa using pE)
      have q' := q.off hxB
      have hxv : x ≠ v := fun e => hxB (by rw [← e]; simp)
      exact ⟨t.f1, x, Or.inr rfl, z33 q'.conn hxv, on_tie.2 (Or.inr rfl), hxv, q'.conn.symm⟩
    · have q : Path E t.f0 k (A ++ [k]) := pE.take
      have q' := q.off hA
      have hkv : k ≠ v := fun e => hA (by rw [← e]; simp)
      have h0 : t.f0 ≠ v := fun e => hA (by rw [← e]; exact q.memA)
      exact ⟨t.f0, k, Or.inl rfl, h0, on_tie.2 (Or.inl rfl), hkv, q'.conn⟩
  · have q' := pE.off hv
    have h0 : t.f0 ≠ v := fun e => hv (by rw [← e]; exact pE.memA)
    exact ⟨t.f0, k, Or.inl rfl, h0, on_tie.2 (Or.inl rfl), fun e => hv (by rw [← e]; simp), q'.conn_mem (by simp)⟩
theorem first_in (S : List Int) : ∀ w : List Int, (∃ x ∈ w, x ∈ S) → ∃ A z B, w = A ++ z :: B ∧ z ∈ S ∧ ∀ x ∈ A, x ∉ S
  | [], h => by simp at h
  | a :: l, h => by
    by_cases ha : a ∈ S
    · exact ⟨[], a, l, rfl, ha, by simp⟩
    · obtain ⟨A, z, B, e, hz, hA⟩ := first_in S l (by
        obtain ⟨x, hx, hs⟩ := h
        rcases List.mem_cons.1 hx with rfl | hx
        · exact absurd hs ha
        · exact ⟨x, hx, hs⟩)
      refine ⟨a :: A, z, B, by rw [e]; rfl, hz, fun x hx => ?_⟩
      rcases List.mem_cons.1 hx with rfl | hx
      · exact ha
      · exact hA x hx
theorem two_in {w : List Int} {k z : Int} (hk : k ∈ w) (hz : z ∈ w) (hne : k ≠ z) : (∃ A M C, w = A ++ k :: (M ++ z :: C)) ∨ ∃ A M C, w = A ++ z :: (M ++ k :: C) := by
  obtain ⟨A, B, rfl⟩ := List.append_of_mem hk
  rcases List.mem_append.1 hz with h | h
  · obtain ⟨A1, A2, rfl⟩ := List.append_of_mem h
    exact Or.inr ⟨A1, A2, B, by simp⟩
  · rcases List.mem_cons.1 h with h | h
    · exact absurd h.symm hne
    · obtain ⟨B1, B2, rfl⟩ := List.append_of_mem h
      exact Or.inl ⟨A, B1, B2, rfl⟩
theorem ear {F : List T} {a b k z : Int} {A M C Q : List Int} (p : Path F a b (A ++ k :: (M ++ z :: C))) (q : Path F k z (k :: (Q ++ [z]))) (hQ : ∀ x ∈ Q, x ∉ A ++ k :: (M ++ z :: C)) : Path F a b (A ++ k :: (Q ++ z :: C)) := by
  have p1 : Path F a k (A ++ [k]) := p.take
  have p2 : Path F z b (z :: C) := Path.drop (A := A ++ k :: M) (by simpa using p)
  have q2 : Path F k b (k :: (Q ++ z :: C)) := by
    have := Path.append (A := k :: Q) (B := C) (by simpa using q) p2 (fun x hx hc => by
      rcases List.mem_cons.1 hx with rfl | hx
      · have := (List.nodup_cons.1 (List.nodup_append.1 p.nd).2.1).1
        exact this (by simp [hc])
      · exact hQ x hx (by simp [hc]))
    simpa using this
  refine p1.append q2 (fun x hx hm => ?_)
  rcases List.mem_append.1 hm with h | h
  · exact hQ x h (by simp [hx])
  · exact (List.nodup_append.1 p.nd).2.2 x hx x (by
      rcases List.mem_cons.1 h with rfl | h <;> simp [*]) rfl
theorem CC.step {n : Int} {E : List T} (h : OK n E) {t e f : T} (ht : t ∈ E) (c : CC E t e) (hf : f ∈ E) (hs : Side E e f) : CC E t f := by
  by_cases hft : f = t
  · exact Or.inl hft
  obtain ⟨k, x, y, rfl, rfl, hx, hy, hc⟩ := hs
  obtain ⟨q, Q⟩ := hc.symm.path
  have hkq : k ∉ q := z32 Q hy
  have hte := h.tie t ht
  have hfF : Has (less E (· = t)) k y := mem_less.2 ⟨hf, hft⟩
  rcases c with e | ⟨w, P, he⟩
  · -- the tie itself: the ring is closed by it
    have QF : Path (less E (· = t)) y x q := Q.mono (fun u hu => mem_less.2 ⟨(mem_less.1 hu).1, fun e' => (mem_less.1 hu).2 (by
      rcases tie_ends e with ⟨a, _⟩ | ⟨a, _⟩
      · exact Or.inl (by rw [e', ← a])
      · exact Or.inr (by rw [e', ← a]))⟩)
    have P := QF.consP hfF hkq
    have hm : tie k y ∈ es (k :: q) := by
      obtain ⟨r, rfl⟩ := Q.cons_eq
      simp [es]
    rcases tie_ends e with ⟨a, b⟩ | ⟨a, b⟩
    · exact Or.inr ⟨_, by rw [← a, ← b]; exact P, hm⟩
    · exact Or.inr ⟨_, by rw [← a, ← b]; exact P.rev, (z31 _ _).2 hm⟩
  · have hkw : k ∈ w := by
      obtain ⟨A, k', x', B, rfl, e'⟩ := mem_es he
      rcases tie_inj e' with ⟨a, _⟩ | ⟨_, b⟩
      · rw [← a]; simp
      · rw [← b]; simp
    have hxw : x ∈ w := by
      obtain ⟨A, k', x', B, rfl, e'⟩ := mem_es he
      rcases tie_inj e' with ⟨_, b⟩ | ⟨a, _⟩
      · rw [← b]; simp
      · rw [← a]; simp
    obtain ⟨Q1, z, Q2, rfl, hz, hQ1⟩ := first_in w q ⟨x, Q.memB, hxw⟩
    have hkz : k ≠ z := fun e' => hkq (by rw [e']; simp)
    have Q' : Path (lessK E k) y z (Q1 ++ [z]) := Q.take
    -- none of its ties is t: one end of each but the first is off the path; and the first is f
    have QF : Path (less E (· = t)) y z (Q1 ++ [z]) := by
      refine ⟨Q'.nd, walk_es.2 (fun u hu => mem_less.2 ⟨(mem_less.1 (z35 Q' hu)).1, fun e' => ?_⟩), Q'.hd, Q'.lst⟩
      subst e'
      obtain ⟨A, k', x', B, e2, e3⟩ := mem_es hu
      have hk' : k' ∈ Q1 := by
        have : Q1 = A ++ k' :: (x' :: B).dropLast := by
          have h1 := congrArg List.dropLast e2
          rw [List.dropLast_concat] at h1
          rw [h1, List.dropLast_append_of_ne_nil (by simp), List.dropLast_cons_of_ne_nil (by simp)]
        rw [this]; simp
      have hoff := hQ1 k' hk'
      rcases tie_ends e3 with ⟨a, _⟩ | ⟨a, _⟩
      · exact hoff (by rw [a]; exact P.memA)
      · exact hoff (by rw [a]; exact P.memB)
    have hkQ : k ∉ Q1 ++ [z] := z32 Q' hy
    have QK : Path (less E (· = t)) k z (k :: (Q1 ++ [z])) := QF.consP hfF hkQ
    have hm : ∀ C : List Int, tie k y ∈ es (k :: (Q1 ++ z :: C)) := fun C => by
      have := Q'.hd
      cases Q1 with
      | nil => simp at this; subst this; simp [es]
      | cons a r => simp at this; subst this; simp [es]
    rcases two_in hkw hz hkz with ⟨A, M, C, rfl⟩ | ⟨A, M, C, rfl⟩
    · refine Or.inr ⟨_, ear P QK hQ1, ?_⟩
      rw [es_app]
      exact List.mem_append.2 (Or.inr (hm C))
    · have P' : Path (less E (· = t)) t.f1 t.f0 (C.reverse ++ k :: (M.reverse ++ z :: A.reverse)) := by
        have := P.rev
        simpa using this
      have R := ear P' QK (fun x hx hn => hQ1 x hx (by
        simp only [List.mem_append, List.mem_cons, List.mem_reverse] at hn ⊢
        rcases hn with a | a | a | a | a <;> simp [a]))
      refine Or.inr ⟨_, R.rev, (z31 _ _).2 ?_⟩
      rw [es_app]
      exact List.mem_append.2 (Or.inr (hm A.reverse))
theorem cc_iff {n : Int} {E : List T} (h : OK n E) {s t : T} (ht : t ∈ E) (hs : s ∈ E) : CC E t s ↔ Bl E t s := by
  refine ⟨CC.bl h ht, fun hb => ?_⟩
  have hc := hb.chain h ht hs
  clear hb hs
  induction hc with
  | refl => exact Or.inl rfl
  | step c hu hside ih => exact ih.step h ht hu hside
theorem rd_head {w : List Int} (h : w ≠ []) : w.head? = some (rd w 0) := by
  cases w with
  | nil => exact absurd rfl h
  | cons a r => rfl
theorem rd_last {w : List Int} (h : w ≠ []) : w.getLast? = some (rd w ((w.length : Int) - 1)) := by
  have hp : 0 < w.length := List.length_pos_iff.2 h
  rw [show ((w.length : Int) - 1) = ((w.length - 1 : Nat) : Int) by omega, z20 w (w.length - 1) (by omega), List.getLast?_eq_getElem?, List.getElem?_eq_getElem (by omega)]
theorem Path.inn {n : Int} {E : List T} (h : OK n E) {a b : Int} (ha : In n a) {w : List Int} (p : Path E a b w) {x : Int} (hx : x ∈ w) : In n x := (p.conn_mem hx).inNet h ha
theorem z36 {n : Int} {E : List T} {a b : Int} {w : List Int} (h : OK n E) (ha : In n a) : Leads n E a b w ↔ Path E a b w := by
  constructor
  · rintro ⟨_, ⟨h0, _, h2, h3⟩, h4, h5⟩
    exact ⟨h2, h3, by rw [rd_head h0, h4], by rw [rd_last h0, h5]⟩
  · intro p
    exact ⟨h, ⟨p.ne, fun x hx => p.inn h ha hx, p.nd, p.walk⟩, by have := rd_head p.ne; rw [p.hd] at this; exact (Option.some.inj this).symm, by have := rd_last p.ne; rw [p.lst] at this; exact (Option.some.inj this).symm⟩
theorem Leads.path {n : Int} {E : List T} {a b : Int} {w : List Int} (h : Leads n E a b w) : Path E a b w := by
  obtain ⟨_, ⟨h0, _, h2, h3⟩, h4, h5⟩ := h
  exact ⟨h2, h3, by rw [rd_head h0, h4], by rw [rd_last h0, h5]⟩
theorem z37 {E : List T} {a b : Int} {x y : List Int} (p : Path E a b x) : (∀ i : Nat, 1 ≤ i → i + 1 < x.length → rd x (i : Int) ∉ y) ↔ ∀ z ∈ x, z ∈ y → z = a ∨ z = b := by
  have hp : 0 < x.length := List.length_pos_iff.2 p.ne
  have h0 : x[0] = a := by have := p.hd; rw [List.head?_eq_getElem?, List.getElem?_eq_getElem hp] at this; exact Option.some.inj this
  have hl : x[x.length - 1] = b := by have := p.lst; rw [List.getLast?_eq_getElem?, List.getElem?_eq_getElem (by omega)] at this; exact Option.some.inj this
  constructor
  · intro h z hz hy
    obtain ⟨i, hi, rfl⟩ := List.mem_iff_getElem.1 hz
    by_cases e0 : i = 0
    · subst e0; exact Or.inl h0
    · by_cases el : i + 1 < x.length
      · exact absurd hy (by have := h i (by omega) el; rwa [z20 x i hi] at this)
      · obtain rfl : i = x.length - 1 := by omega
        exact Or.inr hl
  · intro h i h1 h2 hy
    rw [z20 x i (by omega)] at hy
    have hn := p.nd
    unfold List.Nodup at hn
    rw [List.pairwise_iff_getElem] at hn
    rcases h _ (List.getElem_mem _) hy with e | e
    · exact hn 0 i hp (by omega) (by omega) (h0.trans e.symm)
    · exact hn i (x.length - 1) (by omega) (by omega) (by omega) (e.trans hl.symm)
theorem z38 {E : List T} {a b v : Int} {y : List Int} (q : Path E a b y) (_hab : a ≠ v ∨ b ≠ v) {p : Int} (hp : p ∈ y) (hpv : p ≠ v) : (a ≠ v ∧ Conn (lessK E v) p a) ∨ (b ≠ v ∧ Conn (lessK E v) p b) := by
  by_cases hv : v ∈ y
  · obtain ⟨A, B, rfl⟩ := List.append_of_mem hv
    have hnd := List.nodup_append.1 q.nd
    rcases List.mem_append.1 hp with h | h
    · obtain ⟨A1, A2, rfl⟩ := List.append_of_mem h
      have q1 : Path E a p (A1 ++ [p]) := Path.take (B := A2 ++ v :: B) (by simpa using q)
      have hoff : v ∉ A1 ++ [p] := fun m => hnd.2.2 v (by
        rcases List.mem_append.1 m with m | m
        · simp [m]
        · simp at m; exact absurd m.symm hpv) v (by simp) rfl
      have q2 := q1.off hoff
      exact Or.inl ⟨fun e => hoff (e ▸ q1.memA), q2.conn.symm⟩
    · have hB : p ∈ B := by
        rcases List.mem_cons.1 h with h | h
        · exact absurd h hpv
        · exact h
      obtain ⟨B1, B2, rfl⟩ := List.append_of_mem hB
      have q1 : Path E p b (p :: B2) := Path.drop (A := A ++ v :: B1) (by simpa using q)
      have hoff : v ∉ p :: B2 := fun m => (List.nodup_cons.1 hnd.2.1).1 (by
        rcases List.mem_cons.1 m with m | m
        · exact absurd m.symm hpv
        · simp [m])
      have q2 := q1.off hoff
      exact Or.inr ⟨fun e => hoff (e ▸ q1.memB), q2.conn⟩
  · have q2 := q.off hv
    exact Or.inl ⟨fun e => hv (e ▸ q.memA), (q2.conn_mem hp).symm⟩
theorem conn_two {E : List T} {a b v : Int} {x y : List Int} (hab : a ≠ b) (p : Path E a b x) (q : Path E a b y) (hd : ∀ z ∈ x, z ∈ y → z = a ∨ z = b) {c d : Int} (hc : c ∈ x ∨ c ∈ y) (hcv : c ≠ v) (hdm : d ∈ x ∨ d ∈ y) (hdv : d ≠ v) : Conn (lessK E v) c d := by
  have hv : a ≠ v ∨ b ≠ v := by
    by_cases e : a = v
    · exact Or.inr (fun e' => hab (e.trans e'.symm))
    · exact Or.inl e
  have one : ∀ {c : Int}, c ∈ x ∨ c ∈ y → c ≠ v → (a ≠ v ∧ Conn (lessK E v) c a) ∨ (b ≠ v ∧ Conn (lessK E v) c b) := fun hc hcv => by
    rcases hc with h | h
    · exact z38 p hv h hcv
    · exact z38 q hv h hcv
  -- the ends hang together, if both are left
  have ends : a ≠ v → b ≠ v → Conn (lessK E v) a b := fun ha hb => by
    by_cases hx : v ∈ x
    · have hy : v ∉ y := fun hy => by
        rcases hd v hx hy with e | e
        · exact ha e.symm
        · exact hb e.symm
      exact (q.off hy).conn
    · exact (p.off hx).conn
  rcases one hc hcv with ⟨h1, k1⟩ | ⟨h1, k1⟩ <;> rcases one hdm hdv with ⟨h2, k2⟩ | ⟨h2, k2⟩
  · exact k1.trans k2.symm
  · exact (k1.trans (ends h1 h2)).trans k2.symm
  · exact (k1.trans (ends h2 h1).symm).trans k2.symm
  · exact k1.trans k2.symm
theorem bl_two {n : Int} {E : List T} (_h : OK n E) {a b : Int} {x y : List Int} (hab : a ≠ b) (p : Path E a b x) (q : Path E a b y) (hd : ∀ z ∈ x, z ∈ y → z = a ∨ z = b) {s t : T} (hs : s ∈ es x ∨ s ∈ es y) (ht : t ∈ es x ∨ t ∈ es y) : Bl E s t := by
  have pick : ∀ {s : T} (v : Int), s ∈ es x ∨ s ∈ es y → ∃ c, On s c ∧ c ≠ v ∧ (c ∈ x ∨ c ∈ y) := fun {s} v hs => by
    have two : ∀ {w : List Int} {s : T}, w.Nodup → s ∈ es w → ∃ c, On s c ∧ c ≠ v ∧ c ∈ w := fun {w s} hn hm => by
      obtain ⟨A, k, u, B, rfl, rfl⟩ := mem_es hm
      by_cases e : k = v
      · refine ⟨u, on_tie.2 (Or.inr rfl), fun e' => ?_, by simp⟩
        have := (List.nodup_cons.1 (List.nodup_append.1 hn).2.1).1
        exact this (by rw [e, ← e']; simp)
      · exact ⟨k, on_tie.2 (Or.inl rfl), e, by simp⟩
    rcases hs with hs | hs
    · obtain ⟨c, h1, h2, h3⟩ := two p.nd hs
      exact ⟨c, h1, h2, Or.inl h3⟩
    · obtain ⟨c, h1, h2, h3⟩ := two q.nd hs
      exact ⟨c, h1, h2, Or.inr h3⟩
  intro v
  obtain ⟨c, c1, c2, c3⟩ := pick v hs
  obtain ⟨d, d1, d2, d3⟩ := pick v ht
  exact ⟨c, d, c1, c2, d1, d2, conn_two hab p q hd c3 c2 d3 d2⟩
theorem z39 {w : List Int} {s : T} {x : Int} (hs : s ∈ es w) (hx : On s x) : x ∈ w := by
  obtain ⟨A, k, u, B, rfl, rfl⟩ := mem_es hs
  rcases on_tie.1 hx with rfl | rfl <;> simp
theorem z40 (E : List T) (s : T) (hE : E.length ≤ 1048576) : ∀ (d i : Nat), i + d = E.length → ∃ c : Int, Ev (fun k => slices_Index_impl_Tie_impl_Tie.l0 k E E.length i s.f0 s.f1) c ∧ (c ≥ 0 ↔ s ∈ E.drop i)
  | 0, i, h => by
    refine ⟨-1, Ev.succ ?_, ?_⟩
    · simp only [slices_Index_impl_Tie_impl_Tie.l0]
      exact Ev.neg (by omega) (Ev.now _)
    · rw [List.drop_of_length_le (by omega)]; simp
  | d + 1, i, h => by
    have hi : i < E.length := by omega
    by_cases e : s = E[i]
    · refine ⟨i, Ev.succ ?_, ?_⟩
      · simp only [slices_Index_impl_Tie_impl_Tie.l0, rd_T_nat E i hi]
        refine Ev.pos (by omega) (Ev.pos (by omega) (Ev.pos (by omega) (Ev.pos (by rw [e]; simp) (Ev.now _))))
      · rw [List.drop_eq_getElem_cons hi]
        exact ⟨fun _ => by rw [e]; exact List.mem_cons_self, fun _ => by omega⟩
    · obtain ⟨c, hc, hm⟩ := z40 E s hE d (i + 1) (by omega)
      refine ⟨c, Ev.succ ?_, ?_⟩
      · simp only [slices_Index_impl_Tie_impl_Tie.l0, rd_T_nat E i hi]
        refine Ev.pos (by omega) (Ev.pos (by omega) (Ev.pos (by omega) (Ev.neg (fun k => e ?_) ?_)))
        · simp only [Bool.and_eq_true, beq_iff_eq] at k
          exact T.ext k.1 k.2
        · rw [w64 (by omega)]
          exact hc
      · rw [List.drop_eq_getElem_cons hi, List.mem_cons, hm]
        exact ⟨Or.inr, fun k => k.resolve_left e⟩
theorem z41 (E : List T) (s : T) (hE : E.length ≤ 1048576) : Ev (fun k => slices_Contains_impl_Tie_impl_Tie.f k E s.f0 s.f1) (dec (s ∈ E)) := by
  obtain ⟨c, hc, hm⟩ := z40 E s hE E.length 0 (by omega)
  simp only [slices_Contains_impl_Tie_impl_Tie.f, slices_Index_impl_Tie_impl_Tie.f]
  refine Ev.bind hc (Ev.some_ (dec_of ?_))
  rw [decide_eq_true_iff, hm, List.drop_zero]
theorem z42 (a b : Int) : impl_tie.f a b = some ((tie a b).f0, (tie a b).f1) := by
  unfold impl_tie.f tie mn mx
  by_cases h : a < b
  · rw [if_pos h, if_pos h, if_neg (by omega)]
  · rw [if_neg h, if_neg h]
    by_cases k : b < a
    · rw [if_pos k]
    · rw [if_neg k]
      have e : a = b := by omega
      subst e; rfl
theorem ev_has (n : Int) (E : List T) (a b : Int) (hE : E.length ≤ 1048576) : Ev (fun k => impl_Net_has.f k n E a b) (dec (Has E a b)) := by
  simp only [impl_Net_has.f]
  exact Ev.bind0 (z42 a b) (Ev.bind (z41 E (tie a b) hE) (Ev.now _))
theorem z43 (l : List Int) (x : Int) (hl : l.length ≤ 1048576) : ∀ (d i : Nat), i + d = l.length → ∃ c : Int, Ev (fun k => slices_Index_int_int.l0 k l x l.length i) c ∧ (c ≥ 0 ↔ x ∈ l.drop i)
  | 0, i, h => by
    refine ⟨-1, Ev.succ ?_, ?_⟩
    · simp only [slices_Index_int_int.l0]
      exact Ev.neg (by omega) (Ev.now _)
    · rw [List.drop_of_length_le (by omega)]; simp
  | d + 1, i, h => by
    have hi : i < l.length := by omega
    by_cases e : x = l[i]
    · refine ⟨i, Ev.succ ?_, ?_⟩
      · simp only [slices_Index_int_int.l0, z20 l i hi]
        exact Ev.pos (by omega) (Ev.pos (by omega) (Ev.pos (by omega) (Ev.pos e (Ev.now _))))
      · rw [List.drop_eq_getElem_cons hi]
        exact ⟨fun _ => by rw [e]; exact List.mem_cons_self, fun _ => by omega⟩
    · obtain ⟨c, hc, hm⟩ := z43 l x hl d (i + 1) (by omega)
      refine ⟨c, Ev.succ ?_, ?_⟩
      · simp only [slices_Index_int_int.l0, z20 l i hi]
        refine Ev.pos (by omega) (Ev.pos (by omega) (Ev.pos (by omega) (Ev.neg e ?_)))
        rw [w64 (by omega)]
        exact hc
      · rw [List.drop_eq_getElem_cons hi, List.mem_cons, hm]
        exact ⟨Or.inr, fun k => k.resolve_left e⟩
theorem z44 (l : List Int) (x : Int) (hl : l.length ≤ 1048576) : Ev (fun k => slices_Contains_int_int.f k l x) (dec (x ∈ l)) := by
  obtain ⟨c, hc, hm⟩ := z43 l x hl l.length 0 (by omega)
  simp only [slices_Contains_int_int.f, slices_Index_int_int.f]
  refine Ev.bind hc (Ev.some_ (dec_of ?_))
  rw [decide_eq_true_iff, hm, List.drop_zero]
end Go.Proofs.Ytffflhmblelegaa.Th
namespace Go.Proofs.Ytffflhmblelegaa.Th
open Go.RowKit Go.Proofs.YtffflhmblelegaaW.PrintWords Go.Proofs.YtffflhmblelegaaW.PrintLast Go.Proofs.YtffflhmblelegaaW.PrintMore Go.Proofs.Ytffflhmblelegaa.F Classical
noncomputable def waysR (n : Int) (E : List T) (b : Int) : Nat → List Int → List (List Int)
  | 0, w => if rd w ((w.length : Int) - 1) = b then [w] else []
  | d + 1, w => if rd w ((w.length : Int) - 1) = b then [w] else (ks n).flatMap (fun k => if Has E (rd w ((w.length : Int) - 1)) k ∧ k ∉ w then waysR n E b d (w ++ [k]) else [])
theorem z45 {α β : Type} (f : α → List β) (m : Nat) : ∀ l : List α, (∀ x ∈ l, (f x).length ≤ m) → (l.flatMap f).length ≤ l.length * m
  | [], _ => by simp
  | x :: l, h => by
    rw [List.flatMap_cons, List.length_append, List.length_cons, Nat.succ_mul]
    have := h x (by simp)
    have := z45 f m l (fun y hy => h y (List.mem_cons_of_mem _ hy))
    omega
theorem z46 {n : Int} (hn : n ≤ 8) (E : List T) (b : Int) : ∀ (d : Nat) (w : List Int), (waysR n E b d w).length ≤ 8 ^ d := by
  intro d
  induction d with
  | zero => intro w; simp only [waysR]; split <;> simp
  | succ d ih =>
    intro w
    simp only [waysR]
    split
    · have : 1 ≤ 8 ^ (d + 1) := Nat.pos_of_ne_zero (by simp)
      simpa using this
    · have h1 := z45 (fun k => if Has E (rd w ((w.length : Int) - 1)) k ∧ k ∉ w then waysR n E b d (w ++ [k]) else []) (8 ^ d) (ks n) (fun k _ => by
        split
        · exact ih _
        · simp)
      have h2 : (ks n).length ≤ 8 := by rw [z12]; omega
      have h3 : (ks n).length * 8 ^ d ≤ 8 * 8 ^ d := Nat.mul_le_mul_right _ h2
      rw [Nat.pow_succ]
      omega
theorem z47 {n : Int} {w : List Int} (hn : w.Nodup) (hi : ∀ x ∈ w, In n x) : w.length ≤ n.toNat := by
  have h := List.Nodup.length_le_of_subset hn (l₂ := ks n) (fun x hx => mem_ks.2 (hi x hx))
  rwa [z12] at h
theorem z48 {w : List Int} {k : Int} (hn : w.Nodup) (hk : k ∉ w) : (w ++ [k]).Nodup := by
  unfold List.Nodup at *
  rw [List.pairwise_append]
  exact ⟨hn, by simp, fun x hx y hy e => hk (by rw [List.mem_singleton] at hy; subst hy; subst e; exact hx)⟩
theorem ev_ways {n : Int} {E : List T} {b : Int} (h : OK n E) : ∀ (d : Nat) (w : List Int) (out : List (List Int)), w.Nodup → w ≠ [] → (∀ x ∈ w, In n x) → w.length + d = n.toNat → out.length + 8 ^ d ≤ 1000000000 →
    Ev (fun k => impl_Net_ways.f k n E w b out) (out ++ waysR n E b d w) := by
  have hE := h.length
  have h8 := h.n8
  intro d
  induction d with
  | zero =>
    intro w out hn hw hi hd ho
    have hl : 0 < w.length := List.length_pos_iff.2 hw
    have hl8 : w.length ≤ 8 := by omega
    refine Ev.succ ?_
    simp only [impl_Net_ways.f]
    rw [w64 (by omega)]
    refine Ev.pos (by omega) (Ev.pos (by omega) ?_)
    simp only [waysR]
    by_cases e : rd w ((w.length : Int) - 1) = b
    · rw [if_pos e]
      refine Ev.pos e ?_
      refine Ev.bind0 (a := w) (by unfold slices_Clone_int_int.f; rw [if_pos (by omega)]) ?_
      refine Ev.pos (by omega) ?_
      exact Ev.now _
    · rw [if_neg e, List.append_nil]
      refine Ev.neg e ?_
      suffices hs : ∀ (m : Nat) (i : Int), 0 ≤ i → i + m = n → Ev (fun k => impl_Net_ways.l0 k w b out (rd w ((w.length : Int) - 1)) n i n E) out from hs n.toNat 0 (by omega) (by omega)
      intro m
      induction m with
      | zero =>
        intro i h0 hi'
        refine Ev.succ ?_
        simp only [impl_Net_ways.l0]
        exact Ev.neg (by omega) (Ev.now _)
      | succ m ihm =>
        intro i h0 hi'
        have hin : i ∈ w := by
          refine Classical.byContradiction (fun hni => ?_)
          have := z47 (n := n) (z48 hn hni) (fun x hx => by
            rw [List.mem_append, List.mem_singleton] at hx
            rcases hx with hx | hx
            · exact hi x hx
            · subst hx; exact ⟨h0, by omega⟩)
          rw [List.length_append, List.length_singleton] at this
          omega
        have hnext : Ev (fun k => impl_Net_ways.j1 k w b out (rd w ((w.length : Int) - 1)) i n i false n E) out := by
          refine Ev.succ ?_
          simp only [impl_Net_ways.j1]
          refine Ev.neg (by simp) ?_
          rw [w64 (by omega)]
          exact ihm (i + 1) (by omega) (by omega)
        refine Ev.succ ?_
        simp only [impl_Net_ways.l0]
        refine Ev.pos (by omega) ?_
        refine Ev.bind (ev_has n E (rd w ((w.length : Int) - 1)) i (by omega)) ?_
        by_cases hh : Has E (rd w ((w.length : Int) - 1)) i
        · rw [dec_t hh]
          refine Ev.pos rfl ?_
          refine Ev.bind (z44 w i (by omega)) ?_
          rw [dec_t hin]
          exact hnext
        · rw [dec_f hh]
          exact Ev.neg (by simp) hnext
  | succ d ih =>
    intro w out hn hw hi hd ho
    have hl : 0 < w.length := List.length_pos_iff.2 hw
    have hl8 : w.length ≤ 8 := by omega
    have hp : 8 ^ (d + 1) = 8 * 8 ^ d := by rw [Nat.pow_succ]; omega
    have hp1 : 1 ≤ 8 ^ d := Nat.pos_of_ne_zero (by simp)
    refine Ev.succ ?_
    simp only [impl_Net_ways.f]
    rw [w64 (by omega)]
    refine Ev.pos (by omega) (Ev.pos (by omega) ?_)
    simp only [waysR]
    by_cases e : rd w ((w.length : Int) - 1) = b
    · rw [if_pos e]
      refine Ev.pos e ?_
      refine Ev.bind0 (a := w) (by unfold slices_Clone_int_int.f; rw [if_pos (by omega)]) ?_
      refine Ev.pos (by omega) ?_
      exact Ev.now _
    · rw [if_neg e]
      refine Ev.neg e ?_
      have hloop : ∀ (m : Nat) (i : Int) (o : List (List Int)), 0 ≤ i → i + m = n → o.length + m * 8 ^ d ≤ 1000000000 → Ev (fun k => impl_Net_ways.l0 k w b o (rd w ((w.length : Int) - 1)) n i n E) (o ++ (ksFrom n i).flatMap (fun k => if Has E (rd w ((w.length : Int) - 1)) k ∧ k ∉ w then waysR n E b d (w ++ [k]) else [])) := by
        intro m
        induction m with
        | zero =>
          intro i o h0 hi' _
          refine Ev.succ ?_
          simp only [impl_Net_ways.l0]
          rw [z16 (by omega)]
          simp only [List.flatMap_nil, List.append_nil]
          exact Ev.neg (by omega) (Ev.now _)
        | succ m ihm =>
          intro i o h0 hi' hb
          have hb' : o.length + (m * 8 ^ d + 8 ^ d) ≤ 1000000000 := by rw [Nat.succ_mul] at hb; exact hb
          rw [z17 h0 (by omega), List.flatMap_cons]
          have hskip : Ev (fun k => impl_Net_ways.j1 k w b o (rd w ((w.length : Int) - 1)) i n i false n E) (o ++ (ksFrom n (i + 1)).flatMap (fun k => if Has E (rd w ((w.length : Int) - 1)) k ∧ k ∉ w then waysR n E b d (w ++ [k]) else [])) := by
            refine Ev.succ ?_
            simp only [impl_Net_ways.j1]
            refine Ev.neg (by simp) ?_
            rw [w64 (by omega)]
            exact ihm (i + 1) o (by omega) (by omega) (by omega)
          refine Ev.succ ?_
          simp only [impl_Net_ways.l0]
          refine Ev.pos (by omega) ?_
          refine Ev.bind (ev_has n E (rd w ((w.length : Int) - 1)) i (by omega)) ?_
          by_cases hh : Has E (rd w ((w.length : Int) - 1)) i
          · rw [dec_t hh]
            refine Ev.pos rfl ?_
            refine Ev.bind (z44 w i (by omega)) ?_
            by_cases hin : i ∈ w
            · rw [dec_t hin, if_neg (fun k => k.2 hin), List.nil_append]
              exact hskip
            · rw [dec_f hin, if_pos ⟨hh, hin⟩]
              refine Ev.succ ?_
              simp only [impl_Net_ways.j1]
              refine Ev.pos rfl ?_
              refine Ev.bind0 (a := w) (by unfold slices_Clone_int_int.f; rw [if_pos (by omega)]) ?_
              refine Ev.bind0 (a := [i]) rfl ?_
              refine Ev.pos (by simp; omega) ?_
              have hl1 := z46 (n := n) (by omega) E b d (w ++ [i])
              refine Ev.bind (ih (w ++ [i]) o (z48 hn hin) (by simp) (fun x hx => ?_) (by simp; omega) (by omega)) ?_
              · rw [List.mem_append, List.mem_singleton] at hx
                rcases hx with hx | hx
                · exact hi x hx
                · subst hx; exact ⟨h0, by omega⟩
              · rw [w64 (by omega), ← List.append_assoc]
                exact ihm (i + 1) _ (by omega) (by omega) (by rw [List.length_append]; omega)
          · rw [dec_f hh, if_neg (fun k => hh k.1), List.nil_append]
            exact Ev.neg (by simp) hskip
      have := hloop n.toNat 0 out (by omega) (by omega) (by
        have : n.toNat * 8 ^ d ≤ 8 * 8 ^ d := Nat.mul_le_mul_right _ (by omega)
        omega)
      rw [z15] at this
      exact this
theorem z49 {w : List Int} {a : Int} {r : List Int} (e : w = r ++ [a]) : rd w ((w.length : Int) - 1) = a := by
  subst e
  rw [show (((r ++ [a]).length : Int) - 1) = ((r.length : Nat) : Int) by simp, rd_nat]
  simp
theorem z50 {n : Int} {E : List T} {b : Int} (h : OK n E) : ∀ (d : Nat) (r : List Int) (a : Int) (u : List Int), (r ++ [a]).Nodup → (∀ x ∈ r ++ [a], In n x) → r.length + 1 + d = n.toNat →
    (u ∈ waysR n E b d (r ++ [a]) ↔ ∃ v, u = r ++ v ∧ u.Nodup ∧ Path E a b v) := by
  intro d
  induction d with
  | zero =>
    intro r a u hn hi hd
    simp only [waysR]
    rw [z49 rfl]
    constructor
    · intro hu
      split at hu
      · next e =>
        subst e
        rw [List.mem_singleton] at hu
        subst hu
        exact ⟨[a], rfl, hn, Path.single E a⟩
      · exact absurd hu (by simp)
    · rintro ⟨v, rfl, hnd, p⟩
      obtain ⟨s, rfl⟩ := p.cons_eq
      cases s with
      | nil =>
        have hb : a = b := by have := p.lst; simpa using this
        rw [if_pos hb]
        simp
      | cons c s =>
        exfalso
        have hc : In n c := (h.has p.walk.1).2.1
        have hcn : c ∉ r ++ [a] := by
          intro hc'
          rw [show r ++ a :: c :: s = (r ++ [a]) ++ c :: s by simp] at hnd
          exact (List.nodup_append.1 hnd).2.2 c hc' c (by simp) rfl
        have := z47 (n := n) (z48 hn hcn) (fun x hx => by
          rw [List.mem_append, List.mem_singleton] at hx
          rcases hx with hx | hx
          · exact hi x hx
          · subst hx; exact hc)
        simp at this
        omega
  | succ d ih =>
    intro r a u hn hi hd
    simp only [waysR]
    rw [z49 rfl]
    constructor
    · intro hu
      split at hu
      · next e =>
        subst e
        rw [List.mem_singleton] at hu
        subst hu
        exact ⟨[a], rfl, hn, Path.single E a⟩
      · obtain ⟨k, hk, hu⟩ := List.mem_flatMap.1 hu
        split at hu
        · next hc =>
          have hkn := mem_ks.1 hk
          obtain ⟨v, e, hnd, p⟩ := (ih (r ++ [a]) k u (z48 hn hc.2) (fun x hx => by
            rw [List.mem_append, List.mem_singleton] at hx
            rcases hx with hx | hx
            · exact hi x hx
            · subst hx; exact hkn) (by simp; omega)).1 hu
          refine ⟨a :: v, by rw [e]; simp, hnd, p.consP hc.1 (fun ha => ?_)⟩
          rw [e] at hnd
          exact (List.nodup_append.1 hnd).2.2 a (by simp) a ha rfl
        · exact absurd hu (by simp)
    · rintro ⟨v, rfl, hnd, p⟩
      obtain ⟨s, rfl⟩ := p.cons_eq
      cases s with
      | nil =>
        have hb : a = b := by have := p.lst; simpa using this
        rw [if_pos hb]
        simp
      | cons c s =>
        have hcn : c ∉ r ++ [a] := by
          intro hc'
          rw [show r ++ a :: c :: s = (r ++ [a]) ++ c :: s by simp] at hnd
          exact (List.nodup_append.1 hnd).2.2 c hc' c (by simp) rfl
        have hab : a ≠ b := by
          intro e
          have hb := p.lst
          rw [List.getLast?_cons_cons] at hb
          have := List.mem_of_getLast? hb
          have hx := p.nd
          rw [List.nodup_cons] at hx
          exact hx.1 (e ▸ this)
        rw [if_neg hab]
        have hc : In n c := (h.has p.walk.1).2.1
        refine List.mem_flatMap.2 ⟨c, mem_ks.2 hc, ?_⟩
        rw [if_pos ⟨p.walk.1, hcn⟩]
        refine (ih (r ++ [a]) c _ (z48 hn hcn) (fun x hx => by
            rw [List.mem_append, List.mem_singleton] at hx
            rcases hx with hx | hx
            · exact hi x hx
            · subst hx; exact hc) (by simp; omega)).2 ⟨c :: s, by simp, hnd, ?_⟩
        exact Path.drop (A := [a]) p
theorem z51 {n : Int} {E : List T} {b : Int} (h : OK n E) : ∀ (d : Nat) (r : List Int) (a : Int), (r ++ [a]).Nodup → (∀ x ∈ r ++ [a], In n x) → r.length + 1 + d = n.toNat → (waysR n E b d (r ++ [a])).Nodup := by
  intro d
  induction d with
  | zero => intro r a _ _ _; simp only [waysR]; split <;> simp
  | succ d ih =>
    intro r a hn hi hd
    simp only [waysR]
    split
    · simp
    · have hup : ∀ k ∈ ks n, k ∉ r ++ [a] → (∀ x ∈ r ++ [a] ++ [k], In n x) := fun k hk _ x hx => by
        rw [List.mem_append, List.mem_singleton] at hx
        rcases hx with hx | hx
        · exact hi x hx
        · subst hx; exact mem_ks.1 hk
      unfold List.Nodup
      rw [List.pairwise_flatMap]
      refine ⟨fun k hk => ?_, ?_⟩
      · split
        · next hc => exact ih (r ++ [a]) k (z48 hn hc.2) (hup k hk hc.2) (by simp; omega)
        · simp
      · refine (List.Pairwise.and_mem.1 (ks_nodup n)).imp ?_
        rintro k k' ⟨hk, hk', hne⟩ u hu u' hu' e
        subst e
        split at hu
        · next hc =>
          split at hu'
          · next hc' =>
            obtain ⟨v, e1, _, p1⟩ := (z50 h d (r ++ [a]) k u (z48 hn hc.2) (hup k hk hc.2) (by simp; omega)).1 hu
            obtain ⟨v', e2, _, p2⟩ := (z50 h d (r ++ [a]) k' u (z48 hn hc'.2) (hup k' hk' hc'.2) (by simp; omega)).1 hu'
            rw [e1] at e2
            have := List.append_cancel_left e2
            subst this
            have e3 := p1.hd.symm.trans p2.hd
            injection e3 with e3
            exact hne e3
          · exact absurd hu' (by simp)
        · exact absurd hu (by simp)
noncomputable def allW (n : Int) (E : List T) (a b : Int) : List (List Int) := sortW (waysR n E b (n.toNat - 1) [a])
theorem mem_allW {n : Int} {E : List T} {a b : Int} (h : OK n E) (ha : In n a) {w : List Int} : w ∈ allW n E a b ↔ Path E a b w := by
  unfold allW
  rw [(sortW_perm _).mem_iff, show [a] = [] ++ [a] from rfl, z50 h (n.toNat - 1) [] a w (by simp) (by simpa using ha) (by simp; have := ha.1; have := ha.2; omega)]
  exact ⟨fun ⟨v, e, _, p⟩ => by rw [e]; exact p, fun p => ⟨w, rfl, p.nd, p⟩⟩
theorem z52 {n : Int} {E : List T} {a b : Int} (h : OK n E) (ha : In n a) : (allW n E a b).Nodup := by
  unfold allW
  rw [(sortW_perm _).nodup_iff]
  exact z51 h (n.toNat - 1) [] a (by simp) (by simpa using ha) (by simp; have := ha.1; have := ha.2; omega)
theorem Path.len {n : Int} {E : List T} {a b : Int} {w : List Int} (h : OK n E) (ha : In n a) (p : Path E a b w) : w.length ≤ 8 := by
  have := z47 (n := n) p.nd (fun x hx => (p.conn_mem hx).inNet h ha)
  have := h.n8
  omega
theorem allW_len {n : Int} {E : List T} {a b : Int} (h : OK n E) (ha : In n a) : (allW n E a b).length ≤ 1000000000 ∧ ∀ w ∈ allW n E a b, w.length ≤ 8 := by
  refine ⟨?_, fun w hw => ((mem_allW h ha).1 hw).len h ha⟩
  unfold allW
  rw [(sortW_perm _).length_eq]
  have h1 := z46 (n := n) (by have := h.n8; omega) E b (n.toNat - 1) [a]
  have h2 : 8 ^ (n.toNat - 1) ≤ 8 ^ 7 := Nat.pow_le_pow_right (by omega) (by have := h.n8; omega)
  have h3 : (8 : Nat) ^ 7 ≤ 1000000000 := by decide
  omega
theorem ev_all {n : Int} {E : List T} {a b : Int} (h : OK n E) (ha : In n a) : Ev (fun k => impl_Net_all.f k n E a b) (allW n E a b) := by
  have hw := ev_ways (b := b) h (n.toNat - 1) [a] [] (by simp) (by simp) (by simpa using ha) (by simp; have := ha.1; have := ha.2; omega) (by
    have h2 : 8 ^ (n.toNat - 1) ≤ 8 ^ 7 := Nat.pow_le_pow_right (by omega) (by have := h.n8; omega)
    have h3 : (8 : Nat) ^ 7 ≤ 1000000000 := by decide
    simp only [List.length_nil]
    omega)
  rw [List.nil_append] at hw
  simp only [impl_Net_all.f]
  refine Ev.bind hw ?_
  have hl := allW_len (b := b) h ha
  unfold allW at hl
  rw [(sortW_perm _).length_eq] at hl
  exact Ev.pos ⟨by omega, fun x hx => by have := hl.2 x ((sortW_perm _).mem_iff.2 hx); omega⟩ (Ev.now _)
end Go.Proofs.Ytffflhmblelegaa.Th
namespace Go.Proofs.Ytffflhmblelegaa.Th
open Go.RowKit Go.Proofs.YtffflhmblelegaaW.PrintWords Go.Proofs.YtffflhmblelegaaW.PrintLast Go.Proofs.YtffflhmblelegaaW.PrintMore Go.Proofs.Ytffflhmblelegaa.F
noncomputable def nextL (n : Int) (E : List T) (v : Int) : List Int := (ks n).filter (fun c => dec (Has E v c))
theorem mem_nextL {n : Int} {E : List T} {v c : Int} : c ∈ nextL n E v ↔ In n c ∧ Has E v c := by
  unfold nextL
  rw [List.mem_filter, mem_ks, dec_iff]
  exact Iff.rfl
theorem z53 (n : Int) (E : List T) (v : Int) : (nextL n E v).length ≤ n.toNat := by
  have := List.length_filter_le (fun c => dec (Has E v c)) (ks n)
  rw [z12] at this
  exact this
theorem z54 (n : Int) (E : List T) (v : Int) (hE : E.length ≤ 1048576) (hn : n ≤ 1000) : ∀ (d : Nat) (i : Int) (out : List Int), 0 ≤ i → i + d = n → out.length ≤ i.toNat →
    Ev (fun k => spec_l2Next.l0 k v out i n E) (out ++ (ksFrom n i).filter (fun c => dec (Has E v c)))
  | 0, i, out, h0, h, _ => by
    refine Ev.succ ?_
    simp only [spec_l2Next.l0]
    refine Ev.neg (by omega) (Ev.some_ ?_)
    rw [z16 (by omega)]; simp
  | d + 1, i, out, h0, h, hl => by
    refine Ev.succ ?_
    simp only [spec_l2Next.l0]
    refine Ev.pos (by omega) (Ev.bind (ev_l1Has n E v i hE) ?_)
    rw [z17 h0 (by omega), w64 (by omega)]
    by_cases hv : Has E v i
    · refine Ev.pos (dec_t hv) (Ev.pos (by omega) ?_)
      refine Ev.cast (z54 n E v hE hn d (i + 1) (out ++ [i]) (by omega) (by omega) (by simp only [List.length_append, List.length_singleton]; omega)) ?_
      rw [List.filter_cons_of_pos (p := fun c => dec (Has E v c)) (dec_t hv)]; simp
    · refine Ev.neg (by rw [dec_f hv]; simp) ?_
      refine Ev.cast (z54 n E v hE hn d (i + 1) out (by omega) (by omega) (by omega)) ?_
      rw [List.filter_cons_of_neg (p := fun c => dec (Has E v c)) (by rw [dec_f hv]; simp)]
theorem z55 {n : Int} {E : List T} (v : Int) (hE : E.length ≤ 1048576) (h0 : 0 ≤ n) (hn : n ≤ 1000) : Ev (fun k => spec_l2Next.f k n E v) (nextL n E v) := by
  simp only [spec_l2Next.f]
  refine Ev.cast (z54 n E v hE hn n.toNat 0 [] (by omega) (by omega) (by simp)) ?_
  rw [z15]; rfl
end Go.Proofs.Ytffflhmblelegaa.Th
namespace Go.Proofs.Ytffflhmblelegaa.Th
open Go.RowKit Go.Proofs.YtffflhmblelegaaW.PrintWords Go.Proofs.YtffflhmblelegaaW.PrintLast Go.Proofs.YtffflhmblelegaaW.PrintMore Go.Proofs.Ytffflhmblelegaa.F Classical
noncomputable def onR (n : Int) (E : List T) (b : Int) : Nat → List Int → List (List Int)
  | 0, w => if rd w ((w.length : Int) - 1) = b then [w] else []
  | d + 1, w => if rd w ((w.length : Int) - 1) = b then [] else (nextL n E (rd w ((w.length : Int) - 1))).flatMap (fun k => if k ∈ w then [] else onR n E b d (w ++ [k]))
theorem onR_pre (n : Int) (E : List T) (b : Int) : ∀ (d : Nat) (w u : List Int), u ∈ onR n E b d w → ∃ s, u = w ++ s ∧ s.length = d
  | 0, w, u, h => by
    simp only [onR] at h
    split at h
    · rw [List.mem_singleton] at h
      exact ⟨[], by rw [h]; simp, rfl⟩
    · exact absurd h (by simp)
  | d + 1, w, u, h => by
    simp only [onR] at h
    split at h
    · exact absurd h (by simp)
    · obtain ⟨k, _, hu⟩ := List.mem_flatMap.1 h
      split at hu
      · exact absurd hu (by simp)
      · obtain ⟨s, rfl, hs⟩ := onR_pre n E b d (w ++ [k]) u hu
        exact ⟨k :: s, by simp, by simp [hs]⟩
theorem ltL_app {l m : List Int} (h : ltL l m) : ∀ w : List Int, ltL (w ++ l) (w ++ m)
  | [] => h
  | a :: w => by
    rw [List.cons_append, List.cons_append]
    unfold ltL
    exact Or.inr ⟨rfl, ltL_app h w⟩
theorem z56 (n : Int) (E : List T) (v : Int) : (nextL n E v).Pairwise (· < ·) := (z14 n).filter _
theorem z57 (n : Int) (E : List T) (b : Int) : ∀ (d : Nat) (w : List Int), (onR n E b d w).Pairwise ltW
  | 0, w => by simp only [onR]; split <;> simp
  | d + 1, w => by
    simp only [onR]
    split
    · simp
    · rw [List.pairwise_flatMap]
      refine ⟨fun k _ => ?_, (z56 n E _).imp ?_⟩
      · split
        · simp
        · exact z57 n E b d (w ++ [k])
      · intro k k' hlt u hu u' hu'
        split at hu
        · exact absurd hu (by simp)
        · split at hu'
          · exact absurd hu' (by simp)
          · obtain ⟨s, rfl, hs⟩ := onR_pre n E b d _ _ hu
            obtain ⟨s', rfl, hs'⟩ := onR_pre n E b d _ _ hu'
            refine Or.inr ⟨by simp [hs, hs'], ?_⟩
            rw [List.append_assoc, List.append_assoc]
            exact ltL_app (by rw [List.singleton_append, List.singleton_append]; unfold ltL; exact Or.inl hlt) w
theorem mem_onR {n : Int} {E : List T} {b : Int} (h : OK n E) : ∀ (d : Nat) (r : List Int) (a : Int) (u : List Int), (r ++ [a]).Nodup →
    (u ∈ onR n E b d (r ++ [a]) ↔ ∃ v, u = r ++ v ∧ u.Nodup ∧ Path E a b v ∧ v.length = d + 1) := by
  intro d
  induction d with
  | zero =>
    intro r a u hn
    simp only [onR]
    rw [z49 rfl]
    constructor
    · intro hu
      split at hu
      · next e =>
        subst e
        rw [List.mem_singleton] at hu
        subst hu
        exact ⟨[a], rfl, hn, Path.single E a, rfl⟩
      · exact absurd hu (by simp)
    · rintro ⟨v, rfl, hnd, p, hl⟩
      obtain ⟨s, rfl⟩ := p.cons_eq
      obtain rfl : s = [] := List.eq_nil_of_length_eq_zero (by simpa using hl)
      have hb : a = b := by have := p.lst; simpa using this
      rw [if_pos hb]
      simp
  | succ d ih =>
    intro r a u hn
    simp only [onR]
    rw [z49 rfl]
    constructor
    · intro hu
      split at hu
      · exact absurd hu (by simp)
      · obtain ⟨k, hk, hu⟩ := List.mem_flatMap.1 hu
        split at hu
        · exact absurd hu (by simp)
        · next hc =>
          obtain ⟨v, e, hnd, p, hl⟩ := (ih (r ++ [a]) k u (z48 hn hc)).1 hu
          refine ⟨a :: v, by rw [e]; simp, hnd, p.consP (mem_nextL.1 hk).2 (fun ha => ?_), by rw [List.length_cons, hl]⟩
          rw [e] at hnd
          exact (List.nodup_append.1 hnd).2.2 a (by simp) a ha rfl
    · rintro ⟨v, rfl, hnd, p, hl⟩
      obtain ⟨s, rfl⟩ := p.cons_eq
      cases s with
      | nil => simp at hl
      | cons c s =>
        have hcn : c ∉ r ++ [a] := by
          intro hc'
          rw [show r ++ a :: c :: s = (r ++ [a]) ++ c :: s by simp] at hnd
          exact (List.nodup_append.1 hnd).2.2 c hc' c (by simp) rfl
        have hab : a ≠ b := by
          intro e
          have hb := p.lst
          rw [List.getLast?_cons_cons] at hb
          have := List.mem_of_getLast? hb
          have hx := p.nd
          rw [List.nodup_cons] at hx
          exact hx.1 (e ▸ this)
        rw [if_neg hab]
        have hc : In n c := (h.has p.walk.1).2.1
        refine List.mem_flatMap.2 ⟨c, mem_nextL.2 ⟨hc, p.walk.1⟩, ?_⟩
        rw [if_neg hcn]
        refine (ih (r ++ [a]) c _ (z48 hn hcn)).2 ⟨c :: s, by simp, hnd, ?_, by simpa using hl⟩
        exact Path.drop (A := [a]) p
noncomputable def specAll (n : Int) (E : List T) (a b : Int) : List (List Int) := (List.range n.toNat).flatMap (fun i => onR n E b i [a])
theorem z58 (n : Int) (E : List T) (a b : Int) : (specAll n E a b).Pairwise ltW := by
  unfold specAll
  rw [List.pairwise_flatMap]
  refine ⟨fun i _ => z57 n E b i [a], List.pairwise_lt_range.imp ?_⟩
  intro i j hij u hu v hv
  obtain ⟨s, rfl, hs⟩ := onR_pre n E b _ _ _ hu
  obtain ⟨s', rfl, hs'⟩ := onR_pre n E b _ _ _ hv
  exact Or.inl (by simp [hs, hs']; exact hij)
theorem z59 {x y : List Int} (h : ltW x y) : ¬ ltW y x := fun k => ltW_irrefl _ (ltW_trans h k)
theorem z60 {n : Int} {E : List T} {a b : Int} (h : OK n E) (ha : In n a) : specAll n E a b = allW n E a b := by
  have hs := z58 n E a b
  have hn : (specAll n E a b).Nodup := hs.imp (fun k e => by subst e; exact ltW_irrefl _ k)
  refine sortedW_unique (l := specAll n E a b) (m := allW n E a b) ((List.perm_ext_iff_of_nodup hn (z52 h ha)).2 (fun u => ?_)) (hs.imp (fun k => z59 k)) ?_
  · rw [mem_allW h ha]
    unfold specAll
    rw [List.mem_flatMap]
    constructor
    · rintro ⟨i, _, hu⟩
      obtain ⟨v, e, _, p, _⟩ := (mem_onR h i [] a u (by simp)).1 hu
      rw [e]; exact p
    · intro p
      have hl := z47 (n := n) p.nd (fun x hx => (p.conn_mem hx).inNet h ha)
      have h1 : 0 < u.length := List.length_pos_iff.2 p.ne
      exact ⟨u.length - 1, List.mem_range.2 (by omega), (mem_onR h _ [] a u (by simp)).2 ⟨u, rfl, p.nd, p, by omega⟩⟩
  · unfold allW
    exact sortW_sorted _
theorem z61 {n : Int} {E : List T} {a b : Int} (h : OK n E) (ha : In n a) : (allW n E a b).Pairwise ltW := by
  rw [← z60 h ha]; exact z58 n E a b
theorem z62 {l : List (List Int)} (hl : l.Pairwise ltW) {p : List Int} (hp : p ∈ l) (hm : ∀ q ∈ l, ¬ ltW q p) : ∃ r, l = p :: r := by
  cases l with
  | nil => simp at hp
  | cons x r =>
    rcases List.mem_cons.1 hp with e | e
    · exact ⟨r, by rw [e]⟩
    · exact absurd ((List.pairwise_cons.1 hl).1 p e) (hm x (by simp))
structure Far (n : Int) (E : List T) (b : Int) (far : List Int) : Prop where
  len : far.length = n.toNat
  zero : rd far b = 0
  down : ∀ x, In n x → 0 ≤ rd far x → x = b ∨ ∃ c, Has E x c ∧ 0 ≤ rd far c ∧ rd far x = rd far c + 1
  step : ∀ x c, Has E x c → 0 ≤ rd far x → 0 ≤ rd far c ∧ rd far c ≤ rd far x + 1
theorem Far.le {n : Int} {E : List T} {b : Int} {far : List Int} (f : Far n E b far) : ∀ (q : List Int) (x : Int), Path E x b q → 0 ≤ rd far x ∧ rd far x + 1 ≤ q.length
  | [], _, p => absurd rfl p.ne
  | [y], x, p => by
    have h := p.hd; have l := p.lst
    simp at h l
    subst h; subst l
    rw [f.zero]; simp
  | y :: c :: s, x, p => by
    have h := p.hd
    simp at h
    subst h
    have ih := f.le (c :: s) c (Path.drop (A := [y]) p)
    have hs := f.step c y (Has.symm p.walk.1) ih.1
    refine ⟨hs.1, ?_⟩
    have := ih.2
    simp only [List.length_cons] at this ⊢
    omega
theorem z63 : ∀ {l : List Int} (_ : l.Pairwise (· < ·)) {p : Int → Bool} {c : Int} (_ : l.find? p = some c), c ∈ l ∧ p c = true ∧ ∀ x ∈ l, p x = true → c ≤ x
  | [], _, _, _, h => by simp at h
  | y :: l, hs, p, c, h => by
    obtain ⟨h1, h2⟩ := List.pairwise_cons.1 hs
    by_cases hy : p y = true
    · rw [List.find?_cons_of_pos hy] at h
      injection h with h
      subst h
      refine ⟨by simp, hy, fun x hx _ => ?_⟩
      rcases List.mem_cons.1 hx with e | e
      · omega
      · have := h1 x e; omega
    · rw [List.find?_cons_of_neg hy] at h
      obtain ⟨k1, k2, k3⟩ := z63 h2 h
      refine ⟨List.mem_cons_of_mem _ k1, k2, fun x hx hp => ?_⟩
      rcases List.mem_cons.1 hx with e | e
      · subst e; exact absurd hp hy
      · exact k3 x e hp
noncomputable def nearest (n : Int) (E : List T) (far : List Int) (d x : Int) : Int := ((nextL n E x).find? (fun c => decide (rd far c = d))).getD 0
theorem z64 {n : Int} {E : List T} {b : Int} {far : List Int} (h : OK n E) (f : Far n E b far) {x : Int} (hx : In n x) {d : Nat} (hd : rd far x = (d : Int) + 1) :
    Has E x (nearest n E far d x) ∧ In n (nearest n E far d x) ∧ rd far (nearest n E far d x) = d ∧ ∀ c, Has E x c → rd far c = d → nearest n E far d x ≤ c := by
  obtain ⟨c, hc, hc1⟩ : ∃ c, Has E x c ∧ rd far c = d := by
    rcases f.down x hx (by omega) with e | ⟨c, hc, _, k⟩
    · subst e
      have := f.zero
      omega
    · exact ⟨c, hc, by omega⟩
  unfold nearest
  cases e : (nextL n E x).find? (fun c => decide (rd far c = (d : Int))) with
  | none =>
    have := List.find?_eq_none.1 e c (mem_nextL.2 ⟨(h.has hc).2.1, hc⟩)
    exact absurd (decide_eq_true hc1) this
  | some z =>
    obtain ⟨k1, k2, k3⟩ := z63 (z56 n E x) e
    have k1' := mem_nextL.1 k1
    exact ⟨k1'.2, k1'.1, of_decide_eq_true k2, fun c hc hd => k3 c (mem_nextL.2 ⟨(h.has hc).2.1, hc⟩) (decide_eq_true hd)⟩
noncomputable def greedyW (n : Int) (E : List T) (far : List Int) : Nat → Int → List Int
  | 0, x => [x]
  | d + 1, x => x :: greedyW n E far d (nearest n E far d x)
theorem z65 (n : Int) (E : List T) (far : List Int) : ∀ d x, (greedyW n E far d x).length = d + 1
  | 0, _ => rfl
  | d + 1, x => by rw [greedyW, List.length_cons, z65 n E far d]
theorem z66 {n : Int} {E : List T} {b : Int} {far : List Int} (h : OK n E) (f : Far n E b far) : ∀ (d : Nat) (x : Int), In n x → rd far x = d → Path E x b (greedyW n E far d x) ∧ ∀ y ∈ greedyW n E far d x, rd far y ≤ d
  | 0, x, hx, hd => by
    rcases f.down x hx (by omega) with e | ⟨c, _, k1, k2⟩
    · subst e
      refine ⟨Path.single E x, fun y hy => ?_⟩
      rw [greedyW, List.mem_singleton] at hy
      subst hy; omega
    · omega
  | d + 1, x, hx, hd => by
    obtain ⟨h1, h2, h3, _⟩ := z64 h f hx (d := d) (by omega)
    obtain ⟨p, hp⟩ := z66 h f d _ h2 h3
    refine ⟨p.consP h1 (fun hm => ?_), fun y hy => ?_⟩
    · have := hp x hm; omega
    · rw [greedyW] at hy
      rcases List.mem_cons.1 hy with e | e
      · subst e; omega
      · have := hp y e; omega
theorem z67 {n : Int} {E : List T} {b : Int} {far : List Int} (h : OK n E) (f : Far n E b far) : ∀ (d : Nat) (x : Int) (q : List Int), In n x → rd far x = d → Path E x b q → ¬ ltW q (greedyW n E far d x)
  | 0, x, q, hx, hd, p => by
    obtain ⟨r, rfl⟩ := p.cons_eq
    rintro (k | ⟨k, k'⟩)
    · simp [greedyW] at k
    · rw [greedyW] at k'
      unfold ltL at k'
      rcases k' with k' | ⟨_, k'⟩
      · omega
      · cases r with
        | nil => exact ltL_irrefl _ k'
        | cons y r => simp [greedyW] at k
  | d + 1, x, q, hx, hd, p => by
    have hle := (f.le q x p).2
    obtain ⟨r, rfl⟩ := p.cons_eq
    obtain ⟨h1, h2, h3, h4⟩ := z64 h f hx (d := d) (by omega)
    have hg := z65 n E far d (nearest n E far d x)
    rintro (k | ⟨k, k'⟩)
    · rw [greedyW, List.length_cons, List.length_cons, hg] at k
      simp only [List.length_cons] at hle
      omega
    · rw [greedyW, List.length_cons, List.length_cons, hg] at k
      rw [greedyW] at k'
      unfold ltL at k'
      rcases k' with k' | ⟨_, k'⟩
      · omega
      · cases r with
        | nil => simp at k
        | cons c s =>
          have pc : Path E c b (c :: s) := Path.drop (A := [x]) p
          have hxc : Has E x c := p.walk.1
          have l1 := (f.le _ c pc)
          have l2 := f.step c x hxc.symm l1.1
          have hc : rd far c = d := by
            have := l1.2
            simp only [List.length_cons] at this k
            omega
          have hle2 := h4 c hxc hc
          by_cases e : c = nearest n E far d x
          · subst e
            exact z67 h f d _ _ h2 h3 pc (Or.inr ⟨by rw [hg]; simpa using k, k'⟩)
          · cases d with
            | zero =>
              rw [greedyW] at k'
              unfold ltL at k'
              omega
            | succ d =>
              rw [greedyW] at k'
              unfold ltL at k'
              omega
noncomputable def firstW (n : Int) (E : List T) (a b : Int) : List Int := (allW n E a b).headD []
theorem z68 {n : Int} {E : List T} {a b : Int} (h : OK n E) (ha : In n a) (hc : Conn E a b) : Path E a b (firstW n E a b) := by
  obtain ⟨w, p⟩ := hc.path
  have hw := (mem_allW h ha).2 p
  unfold firstW
  cases e : allW n E a b with
  | nil => rw [e] at hw; simp at hw
  | cons x l => exact (mem_allW h ha).1 (by rw [e]; simp)
theorem z69 {n : Int} {E : List T} {a b : Int} {far : List Int} (h : OK n E) (f : Far n E b far) (ha : In n a) {d : Nat} (hd : rd far a = d) : greedyW n E far d a = firstW n E a b := by
  obtain ⟨r, e⟩ := z62 (z61 h ha) ((mem_allW h ha).2 (z66 h f d a ha hd).1) (fun q hq => z67 h f d a q ha hd ((mem_allW h ha).1 hq))
  unfold firstW
  rw [e]; rfl
theorem far_conn {n : Int} {E : List T} {a b : Int} {far : List Int} (h : OK n E) (f : Far n E b far) (ha : In n a) : 0 ≤ rd far a ↔ Conn E a b := by
  constructor
  · intro k
    have := (z66 h f (rd far a).toNat a ha (by omega)).1
    exact this.conn
  · intro c
    obtain ⟨w, p⟩ := c.path
    exact (f.le w a p).1
noncomputable def wayFind (n : Int) (E : List T) (a b : Int) : List Int × Bool := if (OK n E ∧ In n a) ∧ (OK n E ∧ In n b) ∧ Conn E a b then (firstW n E a b, true) else ([], false)
theorem path_off {E : List T} {a b : Int} {w : List Int} (p : Path E a b w) (hab : a ≠ b) (hw : w ≠ [a, b]) : Path (less E (· = tie a b)) a b w := by
  refine ⟨p.nd, walk_es.2 (fun t ht => mem_less.2 ⟨walk_es.1 p.walk t ht, fun e => ?_⟩), p.hd, p.lst⟩
  obtain ⟨A, k, x, B, rfl, hk⟩ := mem_es ht
  subst e
  have hnd := p.nd
  have hd := p.hd
  have hl := p.lst
  have hA : a = k → A = [] := fun e => by
    cases A with
    | nil => rfl
    | cons y A =>
      have : y = a := by simpa using hd
      subst this
      subst e
      simp [List.nodup_cons] at hnd
  rcases tie_inj hk with ⟨e1, e2⟩ | ⟨e1, e2⟩
  · subst e1; subst e2
    obtain rfl := hA rfl
    cases B with
    | nil => exact hw rfl
    | cons y B =>
      have hm : x ∈ y :: B := List.mem_of_getLast? (by simpa [List.getLast?_cons_cons] using hl)
      rw [List.nil_append, List.nodup_cons, List.nodup_cons] at hnd
      exact hnd.2.1 hm
  · subst e1; subst e2
    cases A with
    | nil =>
      have : k = x := by simpa using hd
      exact hab this.symm
    | cons y A =>
      have : y = x := by simpa using hd
      subst this
      simp [List.nodup_cons] at hnd
theorem z70 {E : List T} {a b : Int} {w : List Int} (p : Path E a b w) : w.length = 2 ↔ w = [a, b] := by
  constructor
  · intro h
    obtain ⟨r, rfl⟩ := p.cons_eq
    obtain ⟨c, rfl⟩ := List.length_eq_one_iff.1 (show r.length = 1 by simpa using h)
    have : c = b := by have := p.lst; simpa using this
    rw [this]
  · rintro rfl; rfl
def inner (x : List Int) : List Int := (x.drop 1).dropLast
theorem z71 {E : List T} {a b z : Int} {x : List Int} (p : Path E a b x) : z ∈ inner x ↔ z ∈ x ∧ z ≠ a ∧ z ≠ b := by
  obtain ⟨r, rfl⟩ := p.cons_eq
  unfold inner
  rw [List.drop_succ_cons, List.drop_zero]
  have hn := List.nodup_cons.1 p.nd
  rcases List.eq_nil_or_concat r with e | ⟨r', c, e⟩
  · subst e
    simp only [List.dropLast_nil, List.not_mem_nil, List.mem_singleton, false_iff]
    exact fun k => k.2.1 k.1
  · rw [List.concat_eq_append] at e
    subst e
    have hc : c = b := by have := p.lst; rw [← List.cons_append, List.getLast?_concat] at this; exact Option.some.inj this
    subst hc
    have h2 := List.nodup_append.1 hn.2
    rw [List.dropLast_concat]
    constructor
    · intro h
      exact ⟨by simp [h], fun e => hn.1 (by rw [← e]; simp [h]), fun e => h2.2.2 z h c (by simp) e⟩
    · rintro ⟨h, ha, hb⟩
      rcases List.mem_cons.1 h with e | e
      · exact absurd e ha
      · rcases List.mem_append.1 e with e | e
        · exact e
        · rw [List.mem_singleton] at e; exact absurd e hb
noncomputable def restE (E : List T) (x : List Int) : List T := if x.length = 2 then less E (· = tie (rd x 0) (rd x 1)) else less E (fun t => ∃ k ∈ inner x, AtK k t)
theorem OK.rest {n : Int} {E : List T} (h : OK n E) (x : List Int) : OK n (restE E x) := by
  unfold restE
  split
  · exact h.less _
  · exact h.less _
theorem apart_of {E : List T} {a b : Int} {x y : List Int} (p : Path E a b x) : Apart x y ↔ ¬ (x.length = 2 ∧ y.length = 2) ∧ ∀ z ∈ x, z ∈ y → z = a ∨ z = b := by
  unfold Apart
  rw [z37 p]
theorem z72 {E : List T} {a b : Int} (hab : a ≠ b) {x y : List Int} (p : Path E a b x) : Path (restE E x) a b y ↔ Path E a b y ∧ Apart x y := by
  rw [apart_of p]
  unfold restE
  by_cases h2 : x.length = 2
  · rw [if_pos h2]
    obtain rfl := (z70 p).1 h2
    rw [show rd [a, b] 0 = a from rfl, show rd [a, b] 1 = b from rfl]
    constructor
    · intro q
      have q' : Path E a b y := q.mono (fun t ht => (mem_less.1 ht).1)
      refine ⟨q', fun hh => ?_, fun z hz _ => by simpa using hz⟩
      have e := (z70 q').1 hh.2
      subst e
      exact (mem_less.1 (q.walk.1 : Has (less E (· = tie a b)) a b)).2 rfl
    · rintro ⟨q, hn, _⟩
      exact path_off q hab (fun e => hn ⟨rfl, (z70 q).2 e⟩)
  · rw [if_neg h2]
    constructor
    · intro q
      refine ⟨q.mono (fun t ht => (mem_less.1 ht).1), fun hh => h2 hh.1, fun z hz hy => Classical.byContradiction (fun hc => ?_)⟩
      rw [not_or] at hc
      have hi := (z71 p).2 ⟨hz, hc.1, hc.2⟩
      have q' : Path (lessK E z) a b y := q.mono (fun t ht => mem_less.2 ⟨(mem_less.1 ht).1, fun k => (mem_less.1 ht).2 ⟨z, hi, k⟩⟩)
      exact z32 q' (fun e => hc.1 e.symm) hy
    · rintro ⟨q, _, hi⟩
      refine ⟨q.nd, walk_es.2 (fun t ht => mem_less.2 ⟨walk_es.1 q.walk t ht, ?_⟩), q.hd, q.lst⟩
      rintro ⟨k, hk, hat⟩
      obtain ⟨k1, k2, k3⟩ := (z71 p).1 hk
      have hy : k ∈ y := z39 ht (by rcases hat with e | e; exact Or.inl e.symm; exact Or.inr e.symm)
      rcases hi k k1 hy with e | e
      · exact k2 e
      · exact k3 e
noncomputable def twoFind (n : Int) (E : List T) (a b : Int) : List Int × List Int × Bool :=
  if OK n E ∧ In n a ∧ In n b ∧ a ≠ b then
    match (allW n E a b).find? (fun x => dec (Conn (restE E x) a b)) with
    | some x => (x, firstW n (restE E x) a b, true)
    | none => ([], [], false)
  else ([], [], false)
theorem z73 {n : Int} {E : List T} {a b : Int} (h : OK n E) (ha : In n a) (hb : In n b) (hab : a ≠ b) {x : List Int} (hx : (allW n E a b).find? (fun x => dec (Conn (restE E x) a b)) = some x) :
    twoFind n E a b = (x, firstW n (restE E x) a b, true) ∧ Path E a b x ∧ Path E a b (firstW n (restE E x) a b) ∧ Apart x (firstW n (restE E x) a b) := by
  have hm := List.mem_of_find?_eq_some hx
  have hp := List.find?_some hx
  have p := (mem_allW h ha).1 hm
  have q := (z72 hab p).1 (z68 (h.rest x) ha (dec_iff.1 hp))
  refine ⟨?_, p, q.1, q.2⟩
  unfold twoFind
  rw [if_pos ⟨h, ha, hb, hab⟩, hx]
theorem z74 {n : Int} {E : List T} {a b : Int} (hx : (allW n E a b).find? (fun x => dec (Conn (restE E x) a b)) = none) : twoFind n E a b = ([], [], false) := by
  unfold twoFind
  rw [hx]
  split <;> rfl
theorem z75 {n : Int} {E : List T} {a b : Int} (h : ¬ (OK n E ∧ In n a ∧ In n b ∧ a ≠ b)) : twoFind n E a b = ([], [], false) := by
  unfold twoFind
  rw [if_neg h]
theorem two_path {n : Int} {E : List T} {a b : Int} {x y : List Int} : Two n E a b x y ↔ (OK n E ∧ In n a ∧ a ≠ b) ∧ Path E a b x ∧ Path E a b y ∧ Apart x y := by
  constructor
  · rintro ⟨hab, hx, hy, ha⟩
    have p := hx.path
    have ha1 : In n a := by
      obtain ⟨_, w, h1, _⟩ := hx
      exact w.inn a p.memA
    exact ⟨⟨hx.1, ha1, hab⟩, p, hy.path, ha⟩
  · rintro ⟨⟨h, ha, hab⟩, p, q, k⟩
    exact ⟨hab, (z36 h ha).2 p, (z36 h ha).2 q, k⟩
end Go.Proofs.Ytffflhmblelegaa.Th
namespace Go.Proofs.Ytffflhmblelegaa.Th
open Go.RowKit Go.Proofs.YtffflhmblelegaaW.PrintWords Go.Proofs.YtffflhmblelegaaW.PrintLast Go.Proofs.YtffflhmblelegaaW.PrintMore Go.Proofs.Ytffflhmblelegaa.F
theorem l1Copy (n : Int) (E : List T) (hE : E.length ≤ 1048576) : spec_l1Copy.f n E = some (n, E) := by
  unfold spec_l1Copy.f
  simp only [Option.bind_some, List.nil_append, List.length_nil]
  rw [if_pos (by omega)]
theorem z76 {x y : Int} (hx : 0 ≤ x ∧ x < 4611686018427387904) (hy : 0 ≤ y ∧ y < 4611686018427387904) : 0 ≤ Go.bits .xor .i64 x y := by
  have hlt : x.toNat ^^^ y.toNat < 2 ^ 62 := Nat.xor_lt_two_pow (by omega) (by omega)
  have e : (BitVec.ofInt 64 x ^^^ BitVec.ofInt 64 y).toNat = x.toNat ^^^ y.toNat := by
    rw [BitVec.toNat_xor, BitVec.toNat_ofInt, BitVec.toNat_ofInt]
    congr 1 <;> omega
  unfold Go.bits
  show 0 ≤ Go.IntKind.wrap .i64 ((BitVec.ofInt 64 x ^^^ BitVec.ofInt 64 y).toNat : Int)
  rw [e]
  rw [i64_w, w64 (by omega)]
  omega
def Bytes (s : List Int) : Prop := s.length ≤ 2000 ∧ ∀ x ∈ s, 0 ≤ x ∧ x ≤ 255
theorem Bytes.rd {s : List Int} (h : Bytes s) {i : Int} (h0 : 0 ≤ i) (h1 : i < s.length) : 0 ≤ rd s i ∧ rd s i ≤ 255 := by
  rw [rd_i s i h0 h1]
  exact h.2 _ (List.getElem_mem _)
theorem ev_pick {s : List Int} (h : Bytes s) {p : Int} (hp : 0 ≤ p ∧ p ≤ 1000000) (m : Int) (hm : m ≤ 1000000000) : ∃ v, Ev (fun k => spec_l6Rd_pick.f k s p m) (v, p + 1) ∧ (1 ≤ m → 0 ≤ v ∧ v < m) ∧ 0 ≤ v ∧ (v < m ∨ v = 0) := by
  by_cases hb : m < 1 ∨ s.length = 0
  · refine ⟨0, ?_, fun _ => by omega, by omega, Or.inr rfl⟩
    simp only [spec_l6Rd_pick.f]
    rw [w64 (x := p + 1) (by omega)]
    have j : Ev (fun k => spec_l6Rd_pick.j0 k m true s (p + 1)) (0, p + 1) := by
      refine Ev.succ ?_
      simp only [spec_l6Rd_pick.j0]
      exact Ev.pos trivial (Ev.now _)
    by_cases h1 : m < 1
    · exact Ev.pos h1 j
    · refine Ev.neg h1 ?_
      have e : ((s.length : Int) == 0) = true := by rw [beq_iff_eq]; omega
      rw [e]; exact j
  · have h1 : ¬ m < 1 := fun k => hb (Or.inl k)
    have h2 : ¬ s.length = 0 := fun k => hb (Or.inr k)
    have e : ((s.length : Int) == 0) = false := by rw [beq_eq_false_iff_ne]; omega
    have hl := h.1
    by_cases hk : p < s.length
    · have hr := h.rd hp.1 hk
      have hv := Int.tmod_nonneg m hr.1
      have hv' := Int.tmod_lt_of_pos (rd s p) (show 0 < m by omega)
      refine ⟨Int.tmod (rd s p) m, ?_, fun _ => ⟨hv, hv'⟩, hv, Or.inl hv'⟩
      simp only [spec_l6Rd_pick.f]
      rw [w64 (x := p + 1) (by omega), e]
      refine Ev.neg h1 (Ev.succ ?_)
      simp only [spec_l6Rd_pick.j0]
      rw [show p + 1 - 1 = p by omega, w64 (x := p) (by omega), w64 (x := rd s p) (by omega)]
      exact Ev.neg (by simp) (Ev.pos hk (Ev.pos hp.1 (Ev.neg (by omega) (Ev.now _))))
    · have hL : (0 : Int) < s.length := by omega
      have a0 := Int.tmod_nonneg (s.length : Int) hp.1
      have a1 := Int.tmod_lt_of_pos p hL
      have b0 := Int.tmod_nonneg (s.length : Int) (show 0 ≤ p * 7 + 3 by omega)
      have b1 := Int.tmod_lt_of_pos (p * 7 + 3) hL
      have ra := h.rd a0 a1
      have rb := h.rd b0 b1
      have d0 := Int.tdiv_nonneg hp.1 (show 0 ≤ (s.length : Int) by omega)
      have d1 : Int.tdiv p s.length ≤ p := Int.tdiv_le_self _ hp.1
      generalize hA : rd s (Int.tmod p s.length) = A at ra
      generalize hB : rd s (Int.tmod (p * 7 + 3) s.length) = B at rb
      generalize hD : Int.tdiv p s.length = D at d0 d1
      have q0 := Int.tdiv_nonneg (show 0 ≤ A * 131 + B * 1117 + p * 29 + D * 53 by omega) (show (0 : Int) ≤ 64 by omega)
      have q1 : Int.tdiv (A * 131 + B * 1117 + p * 29 + D * 53) 64 ≤ A * 131 + B * 1117 + p * 29 + D * 53 := Int.tdiv_le_self _ (by omega)
      have hx := z76 (x := A * 131 + B * 1117 + p * 29 + D * 53) (y := Int.tdiv (A * 131 + B * 1117 + p * 29 + D * 53) 64) (by omega) (by omega)
      have hv := Int.tmod_nonneg m hx
      have hv' := Int.tmod_lt_of_pos (Go.bits .xor .i64 (A * 131 + B * 1117 + p * 29 + D * 53) (Int.tdiv (A * 131 + B * 1117 + p * 29 + D * 53) 64)) (show 0 < m by omega)
      refine ⟨_, ?_, fun _ => ⟨hv, hv'⟩, hv, Or.inl hv'⟩
      simp only [spec_l6Rd_pick.f]
      rw [w64 (x := p + 1) (by omega), e]
      refine Ev.neg h1 (Ev.succ ?_)
      simp only [spec_l6Rd_pick.j0]
      rw [show p + 1 - 1 = p by omega, w64 (x := p) (by omega), w64 (x := p * 7) (by omega), w64 (x := p * 7 + 3) (by omega)]
      refine Ev.neg (by simp) (Ev.neg hk (Ev.neg (by omega) (Ev.pos a0 (Ev.pos a1 (Ev.pos b0 (Ev.pos b1 (Ev.neg (by omega) ?_)))))))
      rw [hA, hB, hD, w64 (x := A) (by omega), w64 (x := A * 131) (by omega), w64 (x := B) (by omega), w64 (x := B * 1117) (by omega), w64 (x := A * 131 + B * 1117) (by omega), w64 (x := p * 29) (by omega), w64 (x := A * 131 + B * 1117 + p * 29) (by omega),
        w64 (x := D) (by omega), w64 (x := D * 53) (by omega), w64 (x := A * 131 + B * 1117 + p * 29 + D * 53) (by omega), w64 (x := Int.tdiv (A * 131 + B * 1117 + p * 29 + D * 53) 64) (by omega)]
      exact Ev.now _
theorem l6Open (s : List Int) (h : s.length ≤ maxLen ∧ ∀ x ∈ s, (Lit.int .u8 x).wf = true) : ∃ s', spec_l6Open.f s = some (s', 0) ∧ Bytes s' := by
  unfold spec_l6Open.f
  by_cases h1 : (s.length : Int) > 2000
  · rw [if_pos h1, if_pos (by omega)]
    exact ⟨_, rfl, by rw [List.length_take]; omega, fun x hx => wf_u8 (h.2 x (List.mem_of_mem_take hx))⟩
  · rw [if_neg h1]
    exact ⟨_, rfl, by omega, fun x hx => wf_u8 (h.2 x hx)⟩
def insT (t : T) : List T → List T
  | [] => [t]
  | s :: r => if lt t s then t :: s :: r else s :: insT t r
theorem mem_insT {t u : T} : ∀ {E : List T}, u ∈ insT t E ↔ u = t ∨ u ∈ E
  | [] => by simp [insT]
  | s :: r => by
    unfold insT
    split
    · simp
    · simp only [List.mem_cons, mem_insT (E := r)]
      constructor
      · rintro (h | h | h)
        · exact Or.inr (Or.inl h)
        · exact Or.inl h
        · exact Or.inr (Or.inr h)
      · rintro (h | h | h)
        · exact Or.inr (Or.inl h)
        · exact Or.inl h
        · exact Or.inr (Or.inr h)
theorem asc_insT {t : T} : ∀ {E : List T}, Asc E → t ∉ E → Asc (insT t E)
  | [], _, _ => by simp [insT, Asc]
  | s :: r, h, hn => by
    have hs := List.pairwise_cons.1 h
    unfold insT
    split
    · next hl =>
      refine List.pairwise_cons.2 ⟨fun u hu => ?_, h⟩
      rcases List.mem_cons.1 hu with rfl | hu
      · exact hl
      · exact lt_trans hl (hs.1 u hu)
    · next hl =>
      refine List.pairwise_cons.2 ⟨fun u hu => ?_, asc_insT hs.2 (fun k => hn (List.mem_cons_of_mem _ k))⟩
      rcases mem_insT.1 hu with rfl | hu
      · rcases lt_tri s u with k | k | k
        · exact k
        · exact absurd (by rw [k]; exact List.mem_cons_self) hn
        · exact absurd k hl
      · exact hs.1 u hu
theorem OK.ins {n : Int} {E : List T} (h : OK n E) {a b : Int} (ha : In n a) (hb : In n b) (hab : a ≠ b) (hn : ¬ Has E a b) : OK n (insT (Th.tie a b) E) := by
  refine ⟨h.n0, h.n8, fun t ht => ?_, asc_insT h.asc hn⟩
  rcases mem_insT.1 ht with rfl | ht
  · unfold In at ha hb
    unfold Th.tie
    split <;> dsimp only <;> omega
  · exact h.tie t ht
theorem z77 {n : Int} {E : List T} (t : T) (hE : E.length ≤ 1048576) : ∀ (d i : Nat) (out : List T), i + d = E.length → out.length ≤ i + 1 → Ev (fun k => spec_NetAdd.l0 k true i n E n out t.f0 t.f1) (n, out ++ E.drop i, true)
  | 0, i, out, h, hl => by
    refine Ev.succ ?_
    simp only [spec_NetAdd.l0]
    refine Ev.neg (by omega) (Ev.pos trivial (Ev.some_ ?_))
    rw [List.drop_of_length_le (by omega)]; simp
  | d + 1, i, out, h, hl => by
    have hi : i < E.length := by omega
    refine Ev.succ ?_
    simp only [spec_NetAdd.l0, rd_T_nat E i hi]
    refine Ev.pos (by omega) (Ev.pos trivial (Ev.pos (by omega) (Ev.pos (by omega) ?_)))
    rw [w64 (by omega), List.drop_eq_getElem_cons hi]
    refine Ev.cast (z77 (n := n) t hE d (i + 1) (out ++ [E[i]]) (by omega) (by simp only [List.length_append, List.length_singleton]; omega)) ?_
    simp
theorem z78 {n : Int} {E : List T} (t : T) (hE : E.length ≤ 1048576) : ∀ (d i : Nat) (out : List T), i + d = E.length → out.length ≤ i → Ev (fun k => spec_NetAdd.l0 k false i n E n out t.f0 t.f1) (n, out ++ insT t (E.drop i), true)
  | 0, i, out, h, hl => by
    refine Ev.succ ?_
    simp only [spec_NetAdd.l0]
    refine Ev.neg (by omega) (Ev.neg (by simp) (Ev.pos (by omega) (Ev.some_ ?_)))
    rw [List.drop_of_length_le (by omega)]; rfl
  | d + 1, i, out, h, hl => by
    have hi : i < E.length := by omega
    refine Ev.succ ?_
    simp only [spec_NetAdd.l0, rd_T_nat E i hi]
    refine Ev.pos (by omega) (Ev.neg (by simp) (Ev.pos (by omega) (Ev.bind0 (l1Less t E[i]) ?_)))
    rw [w64 (by omega), List.drop_eq_getElem_cons hi]
    unfold insT
    by_cases hlt : lt t E[i]
    · rw [if_pos hlt]
      refine Ev.pos (decide_eq_true hlt) (Ev.pos (by omega) (Ev.bind0 rfl (Ev.pos (by simp only [List.length_append, List.length_singleton]; omega) ?_)))
      refine Ev.cast (z77 (n := n) t hE d (i + 1) (out ++ [t] ++ [E[i]]) (by omega) (by simp only [List.length_append, List.length_singleton]; omega)) ?_
      simp
    · rw [if_neg hlt]
      refine Ev.neg (by simp [hlt]) (Ev.pos (by omega) ?_)
      refine Ev.cast (z78 (n := n) t hE d (i + 1) (out ++ [E[i]]) (by omega) (by simp only [List.length_append, List.length_singleton]; omega)) ?_
      simp
def MayAdd (n : Int) (E : List T) (a b : Int) : Prop := OK n E ∧ In n a ∧ In n b ∧ a ≠ b ∧ ¬ Has E a b
theorem z79 {n : Int} {E : List T} {a b : Int} (h : MayAdd n E a b) : Ev (fun k => spec_NetAdd.f k n E a b) (n, insT (tie a b) E, true) := by
  have hl := h.1.length
  simp only [spec_NetAdd.f]
  refine Ev.bind (z10 n E a (by omega) h.1.wf) (Ev.pos (dec_t ⟨h.1, h.2.1⟩) (Ev.bind (z10 n E b (by omega) h.1.wf) (Ev.pos (dec_t ⟨h.1, h.2.2.1⟩) (Ev.neg h.2.2.2.1 (Ev.bind (z11 n E a b (by omega) h.1.wf) ?_)))))
  rw [dec_f (fun k => h.2.2.2.2 k.2)]
  refine Ev.succ ?_
  simp only [spec_NetAdd.j0]
  refine Ev.neg (by simp) (Ev.bind0 (l1Tie a b) ?_)
  exact z78 (tie a b) (by omega) E.length 0 [] (by omega) (by simp)
theorem z80 {n : Int} {E : List T} {a b : Int} (hE : E.length ≤ 1048576) (hw : WF E) (h : ¬ MayAdd n E a b) : Ev (fun k => spec_NetAdd.f k n E a b) (0, [], false) := by
  have no : Ev (fun k => spec_NetAdd.j0 k a b true n E) (0, [], false) := by
    refine Ev.succ ?_
    simp only [spec_NetAdd.j0]
    exact Ev.pos trivial (Ev.now _)
  simp only [spec_NetAdd.f]
  refine Ev.bind (z10 n E a hE hw) ?_
  by_cases ha : OK n E ∧ In n a
  · refine Ev.pos (dec_t ha) (Ev.bind (z10 n E b hE hw) ?_)
    by_cases hb : OK n E ∧ In n b
    · refine Ev.pos (dec_t hb) ?_
      by_cases e : a = b
      · exact Ev.pos e no
      · refine Ev.neg e (Ev.bind (z11 n E a b hE hw) ?_)
        by_cases hh : Has E a b
        · rw [dec_t ⟨ha.1, hh⟩]; exact no
        · exact absurd ⟨ha.1, ha.2, hb.2, e, hh⟩ h
    · exact Ev.neg (by rw [dec_f hb]; simp) no
  · exact Ev.neg (by rw [dec_f ha]; simp) no
theorem z81 {n : Int} {E : List T} (h : OK n E) (a b : Int) : ∃ n' E' ok, Ev (fun k => spec_NetAdd.f k n E a b) (n', E', ok) ∧ OK n' E' := by
  have hl := h.length
  by_cases hm : MayAdd n E a b
  · exact ⟨_, _, _, z79 hm, h.ins hm.2.1 hm.2.2.1 hm.2.2.2.1 hm.2.2.2.2⟩
  · exact ⟨_, _, _, z80 (by omega) h.wf hm, OK.nil (by omega) (by omega)⟩
theorem z82 {s : List Int} (h : Bytes s) : ∀ (d : Nat) (i p n : Int) (E : List T), i ≤ d → d ≤ 20 → 0 ≤ p → p + 2 * d ≤ 101000 → OK n E → ∃ n' E' p', Ev (fun k => spec_l71Net.l2 k i s p n E) (n', E', p') ∧ OK n' E' ∧ 0 ≤ p' ∧ p' ≤ p + 2 * d
  | d, i, p, n, E, hi, hd, hp, hq, ho => by
    have stop : ∃ n' E' p', Ev (fun k => spec_l71Net.j4 k i false s p n E) (n', E', p') ∧ OK n' E' ∧ 0 ≤ p' ∧ p' ≤ p + 2 * d := by
      refine ⟨n, E, p, Ev.succ ?_, ho, hp, by omega⟩
      simp only [spec_l71Net.j4]
      exact Ev.neg (by simp) (Ev.now _)
    by_cases h1 : i > 0
    · by_cases h2 : n > 1
      · cases d with
        | zero => omega
        | succ d =>
          have h8 := ho.n8
          obtain ⟨a, ha, _⟩ := ev_pick h (p := p) (by omega) n (by omega)
          obtain ⟨b, hb, _⟩ := ev_pick h (p := p + 1) (by omega) n (by omega)
          obtain ⟨n1, E1, ok, hadd, hok⟩ := z81 ho a b
          by_cases hk : ok = true
          · obtain ⟨n2, E2, p2, hev, ho2, hp2, hq2⟩ := z82 h d (i - 1) (p + 1 + 1) n1 E1 (by omega) (by omega) (by omega) (by omega) hok
            refine ⟨n2, E2, p2, Ev.succ ?_, ho2, hp2, by omega⟩
            simp only [spec_l71Net.l2]
            refine Ev.pos h1 (Ev.succ ?_)
            simp only [spec_l71Net.j4]
            refine Ev.pos (decide_eq_true h2) (Ev.bind ha (Ev.bind hb (Ev.bind hadd (Ev.pos hk ?_))))
            rw [w64 (by omega)]
            exact hev
          · obtain ⟨n2, E2, p2, hev, ho2, hp2, hq2⟩ := z82 h d (i - 1) (p + 1 + 1) n E (by omega) (by omega) (by omega) (by omega) ho
            refine ⟨n2, E2, p2, Ev.succ ?_, ho2, hp2, by omega⟩
            simp only [spec_l71Net.l2]
            refine Ev.pos h1 (Ev.succ ?_)
            simp only [spec_l71Net.j4]
            refine Ev.pos (decide_eq_true h2) (Ev.bind ha (Ev.bind hb (Ev.bind hadd (Ev.neg hk ?_))))
            rw [w64 (by omega)]
            exact hev
      · obtain ⟨n2, E2, p2, hev, r⟩ := stop
        refine ⟨n2, E2, p2, Ev.succ ?_, r⟩
        simp only [spec_l71Net.l2]
        refine Ev.pos h1 ?_
        rw [decide_eq_false h2]
        exact hev
    · obtain ⟨n2, E2, p2, hev, r⟩ := stop
      refine ⟨n2, E2, p2, Ev.succ ?_, r⟩
      simp only [spec_l71Net.l2]
      exact Ev.neg h1 hev
theorem z83 {s : List Int} (h : Bytes s) (p n : Int) (E : List T) (hp : 0 ≤ p) (hq : p ≤ 100900) (ho : OK n E) : ∃ n' E' p', Ev (fun k => spec_l71Net.j2 k s p n E) (n', E', p') ∧ OK n' E' ∧ 0 ≤ p' ∧ p' ≤ p + 30 := by
  obtain ⟨a, ha, ha', _⟩ := ev_pick h (p := p) (by omega) 13 (by omega)
  have := ha' (by omega)
  obtain ⟨n2, E2, p2, hev, ho2, hp2, hq2⟩ := z82 h 13 a (p + 1) n E (by omega) (by omega) (by omega) (by omega) ho
  refine ⟨n2, E2, p2, Ev.succ ?_, ho2, hp2, by omega⟩
  simp only [spec_l71Net.j2]
  exact Ev.bind ha hev
theorem z84 {s : List Int} (h : Bytes s) : ∀ (d : Nat) (i p n : Int) (E : List T), i + d = 8 → 0 ≤ i → 0 ≤ p → p + d ≤ 100900 → OK n E → ∃ n' E' p', Ev (fun k => spec_l71Net.l0 k i s p n E) (n', E', p') ∧ OK n' E' ∧ 0 ≤ p' ∧ p' ≤ p + d + 30
  | d, i, p, n, E, hi, h0, hp, hq, ho => by
    by_cases h1 : i < n
    · cases d with
      | zero => have := ho.n8; omega
      | succ d =>
        obtain ⟨a, ha, _⟩ := ev_pick h (p := p) (by omega) i (by omega)
        obtain ⟨n1, E1, ok, hadd, hok⟩ := z81 ho i a
        obtain ⟨n2, E2, p2, hev, ho2, hp2, hq2⟩ := z84 h d (i + 1) (p + 1) n1 E1 (by omega) (by omega) (by omega) (by omega) hok
        refine ⟨n2, E2, p2, Ev.succ ?_, ho2, hp2, by omega⟩
        simp only [spec_l71Net.l0]
        refine Ev.pos h1 (Ev.bind ha (Ev.bind hadd ?_))
        rw [w64 (by omega)]
        exact hev
    · obtain ⟨n2, E2, p2, hev, ho2, hp2, hq2⟩ := z83 h p n E hp (by omega) ho
      refine ⟨n2, E2, p2, Ev.succ ?_, ho2, hp2, by omega⟩
      simp only [spec_l71Net.l0]
      exact Ev.neg h1 hev
theorem z85 {s : List Int} (h : Bytes s) (p : Int) (hp : 0 ≤ p) (hq : p ≤ 100900) : ∀ (d : Nat) (i n : Int) (E : List T), i + d = 8 → 0 ≤ i → OK n E → ∃ n' E' p', Ev (fun k => spec_l71Net.l1 k i s p n E) (n', E', p') ∧ OK n' E' ∧ 0 ≤ p' ∧ p' ≤ p + 30
  | d, i, n, E, hi, h0, ho => by
    obtain ⟨n2, E2, p2, hev, r⟩ := z83 h p n E hp (by omega) ho
    by_cases h1 : i < n
    · by_cases h2 : n > 2
      · cases d with
        | zero => have := ho.n8; omega
        | succ d =>
          obtain ⟨n1, E1, ok, hadd, hok⟩ := z81 ho i (Int.tmod (i + 1) n)
          obtain ⟨n2, E2, p2, hev, r⟩ := z85 h p hp hq d (i + 1) n1 E1 (by omega) (by omega) hok
          refine ⟨n2, E2, p2, Ev.succ ?_, r⟩
          simp only [spec_l71Net.l1]
          rw [w64 (x := i + 1) (by omega)]
          exact Ev.pos h1 (Ev.pos h2 (Ev.neg (by omega) (Ev.bind hadd hev)))
      · refine ⟨n2, E2, p2, Ev.succ ?_, r⟩
        simp only [spec_l71Net.l1]
        exact Ev.pos h1 (Ev.neg h2 hev)
    · refine ⟨n2, E2, p2, Ev.succ ?_, r⟩
      simp only [spec_l71Net.l1]
      exact Ev.neg h1 hev
theorem z86 {s : List Int} (h : Bytes s) (p : Int) (hp : 0 ≤ p) (hq : p ≤ 100800) : ∃ n E p', Ev (fun k => spec_l71Net.f k s p) (n, E, p') ∧ OK n E ∧ 0 ≤ p' ∧ p' ≤ p + 50 := by
  obtain ⟨a, ha, ha', _⟩ := ev_pick h (p := p) (by omega) 8 (by omega)
  have := ha' (by omega)
  obtain ⟨b, hb, hb', _⟩ := ev_pick h (p := p + 1) (by omega) 6 (by omega)
  have hn : OK (1 + a) ([] : List T) := OK.nil (by omega) (by omega)
  simp only [spec_l71Net.f]
  by_cases h0 : b = 0
  · obtain ⟨n2, E2, p2, hev, ho2, hp2, hq2⟩ := z84 h 7 1 (p + 1 + 1) (1 + a) [] (by omega) (by omega) (by omega) (by omega) hn
    refine ⟨n2, E2, p2, Ev.bind ha (Ev.bind hb (Ev.pos h0 ?_)), ho2, hp2, by omega⟩
    rw [w64 (by omega)]
    exact hev
  · by_cases h1 : b = 1
    · obtain ⟨n2, E2, p2, hev, ho2, hp2, hq2⟩ := z85 h (p + 1 + 1) (by omega) (by omega) 8 0 (1 + a) [] (by omega) (by omega) hn
      refine ⟨n2, E2, p2, Ev.bind ha (Ev.bind hb (Ev.neg h0 (Ev.pos h1 ?_))), ho2, hp2, by omega⟩
      rw [w64 (by omega)]
      exact hev
    · obtain ⟨n2, E2, p2, hev, ho2, hp2, hq2⟩ := z83 h (p + 1 + 1) (1 + a) [] (by omega) (by omega) hn
      refine ⟨n2, E2, p2, Ev.bind ha (Ev.bind hb (Ev.neg h0 (Ev.neg h1 ?_))), ho2, hp2, by omega⟩
      rw [w64 (by omega)]
      exact hev
structure Small (n : Int) (E : List T) : Prop where
  n : -1 ≤ n ∧ n ≤ 9
  len : E.length ≤ 70
  tie : ∀ t ∈ E, (-9 ≤ t.f0 ∧ t.f0 ≤ 9) ∧ (-9 ≤ t.f1 ∧ t.f1 ≤ 9)
theorem Small.wf {n : Int} {E : List T} (h : Small n E) : WF E := fun t ht => by have := h.tie t ht; omega
theorem Small.le {n : Int} {E : List T} (h : Small n E) : E.length ≤ 1048576 := by have := h.len; omega
theorem OK.small {n : Int} {E : List T} (h : OK n E) : Small n E := by
  refine ⟨?_, by have := h.length; omega, fun t ht => ?_⟩
  · have := h.n0; have := h.n8; omega
  · have := h.tie t ht; have := h.n8; omega
theorem z87 {s : List Int} (h : Bytes s) (p : Int) (hp : 0 ≤ p) (hq : p ≤ 100800) {n : Int} {E : List T} (ho : OK n E) : ∃ n' E' p', Ev (fun k => spec_l71Spoil.f k s p n E) (n', E', p') ∧ Small n' E' ∧ 0 ≤ p' ∧ p' ≤ p + 3 := by
  have hl := ho.length
  have h8 := ho.n8
  have h0 := ho.n0
  have sm := ho.small
  have add : ∀ t : T, ((-9 ≤ t.f0 ∧ t.f0 ≤ 9) ∧ (-9 ≤ t.f1 ∧ t.f1 ≤ 9)) → Small n (E ++ [t]) := fun t ht => ⟨sm.n, by simp only [List.length_append, List.length_singleton]; omega, fun u hu => by
    rcases List.mem_append.1 hu with m | m
    · exact sm.tie u m
    · rw [List.mem_singleton] at m; subst m; exact ht⟩
  obtain ⟨a, ha, ha', _⟩ := ev_pick h (p := p) (by omega) 6 (by omega)
  have := ha' (by omega)
  simp only [spec_l71Spoil.f]
  by_cases e0 : a = 0
  · obtain ⟨b, hb, hb', _⟩ := ev_pick h (p := p + 1) (by omega) 5 (by omega)
    have := hb' (by omega)
    have hv : -1 ≤ rd [(-1 : Int), 0, 1, 8, 9] b ∧ rd [(-1 : Int), 0, 1, 8, 9] b ≤ 9 := by
      obtain rfl | rfl | rfl | rfl | rfl : b = 0 ∨ b = 1 ∨ b = 2 ∨ b = 3 ∨ b = 4 := by omega
      all_goals decide
    refine ⟨_, _, _, Ev.bind0 (l1Copy n E (by omega)) (Ev.bind ha (Ev.pos e0 (Ev.bind0 rfl (Ev.bind hb (Ev.pos (by omega) (Ev.pos (by simp; omega) (Ev.now _))))))), ⟨hv, sm.len, sm.tie⟩, by omega, by omega⟩
  · by_cases e1 : a = 1
    · obtain ⟨b, hb, hb', _⟩ := ev_pick h (p := p + 1) (by omega) 3 (by omega)
      obtain ⟨c, hc, hc', _⟩ := ev_pick h (p := p + 1 + 1) (by omega) 3 (by omega)
      have := hb' (by omega)
      have := hc' (by omega)
      exact ⟨_, _, _, Ev.bind0 (l1Copy n E (by omega)) (Ev.bind ha (Ev.neg e0 (Ev.pos e1 (Ev.bind hb (Ev.bind hc (Ev.pos (by dsimp only; omega) (Ev.now _))))))), add ⟨b, c⟩ (by dsimp only; omega), by omega, by omega⟩
    · by_cases e2 : a = 2
      · refine ⟨_, _, _, Ev.bind0 (l1Copy n E (by omega)) (Ev.bind ha (Ev.neg e0 (Ev.neg e1 (Ev.pos e2 (Ev.pos (by dsimp only; omega) (Ev.now _)))))), add ⟨wrap64 (n - 1), n⟩ ?_, by omega, by omega⟩
        rw [w64 (by omega)]
        dsimp only; omega
      · by_cases e3 : a = 3
        · by_cases hE : (E.length : Int) > 0
          · obtain ⟨b, hb, hb', _⟩ := ev_pick h (p := p + 1) (by omega) (E.length : Int) (by omega)
            have hbb := hb' (by omega)
            refine ⟨_, _, _, Ev.bind0 (l1Copy n E (by omega)) (Ev.bind ha (Ev.neg e0 (Ev.neg e1 (Ev.neg e2 (Ev.pos e3 (Ev.pos hE (Ev.bind hb (Ev.pos hbb.1 (Ev.pos hbb.2 (Ev.now _)))))))))), ⟨sm.n, by rw [List.length_set]; exact sm.len, fun u hu => ?_⟩, by omega, by omega⟩
            rcases List.mem_or_eq_of_mem_set hu with m | rfl
            · exact sm.tie u m
            · have hbn : b.toNat < E.length := by omega
              have e : (rd_T52 E b) = E[b.toNat] := by
                have := rd_T_nat E b.toNat hbn
                rw [show ((b.toNat : Nat) : Int) = b by omega] at this
                exact this
              have := sm.tie _ (List.getElem_mem hbn)
              dsimp only
              rw [e]
              omega
          · exact ⟨_, _, _, Ev.bind0 (l1Copy n E (by omega)) (Ev.bind ha (Ev.neg e0 (Ev.neg e1 (Ev.neg e2 (Ev.pos e3 (Ev.neg hE (Ev.now _))))))), sm, by omega, by omega⟩
        · by_cases e4 : a = 4
          · by_cases hE : (E.length : Int) > 1
            · refine ⟨_, _, _, Ev.bind0 (l1Copy n E (by omega)) (Ev.bind ha (Ev.neg e0 (Ev.neg e1 (Ev.neg e2 (Ev.neg e3 (Ev.pos e4 (Ev.pos hE (Ev.pos (by dsimp only; omega) (Ev.pos (by dsimp only; omega) (Ev.now _)))))))))), add _ ?_, by omega, by omega⟩
              have e : rd_T52 E 0 = E[0] := rd_T_nat E 0 (by omega)
              rw [e]
              have := sm.tie _ (List.getElem_mem (show 0 < E.length by omega))
              dsimp only; omega
            · exact ⟨_, _, _, Ev.bind0 (l1Copy n E (by omega)) (Ev.bind ha (Ev.neg e0 (Ev.neg e1 (Ev.neg e2 (Ev.neg e3 (Ev.pos e4 (Ev.neg hE (Ev.now _)))))))), sm, by omega, by omega⟩
          · refine ⟨_, _, _, Ev.bind0 (l1Copy n E (by omega)) (Ev.bind ha (Ev.neg e0 (Ev.neg e1 (Ev.neg e2 (Ev.neg e3 (Ev.neg e4 (Ev.bind0 rfl (Ev.pos (by simp only [List.length_singleton]; omega) (Ev.now _))))))))), ⟨sm.n, by simp only [List.singleton_append, List.length_cons]; omega, fun u hu => ?_⟩, by omega, by omega⟩
            rcases List.mem_append.1 hu with m | m
            · rw [List.mem_singleton] at m; subst m; dsimp only; omega
            · exact sm.tie u m
theorem z88 {s : List Int} (h : Bytes s) (p : Int) (hp : 0 ≤ p) (hq : p ≤ 100700) : ∃ n E p', Ev (fun k => spec_l71Any.f k s p) (n, E, p') ∧ Small n E ∧ 0 ≤ p' ∧ p' ≤ p + 60 := by
  obtain ⟨n, E, p1, hev, ho, hp1, hq1⟩ := z86 h p hp (by omega)
  obtain ⟨a, ha, _⟩ := ev_pick h (p := p1) (by omega) 12 (by omega)
  simp only [spec_l71Any.f]
  by_cases e : a = 0
  · obtain ⟨n2, E2, p2, h2, hs, hp2, hq2⟩ := z87 h (p1 + 1) (by omega) (by omega) ho
    exact ⟨_, _, _, Ev.bind hev (Ev.bind ha (Ev.pos e (Ev.bind h2 (Ev.now _)))), hs, hp2, by dsimp only; omega⟩
  · exact ⟨_, _, _, Ev.bind hev (Ev.bind ha (Ev.neg e (Ev.now _))), ho.small, by omega, by omega⟩
theorem z89 {s : List Int} (h : Bytes s) (p : Int) (hp : 0 ≤ p) (hq : p ≤ 100900) {n : Int} {E : List T} (hs : Small n E) : ∃ v p', Ev (fun k => spec_l71Knot.f k s p n E) (v, p') ∧ (-9 ≤ v ∧ v ≤ 9) ∧ 0 ≤ p' ∧ p' ≤ p + 2 := by
  have hn := hs.n
  have odd : ∀ p, 0 ≤ p → p ≤ 100950 → ∃ v, Ev (fun k => spec_l71Knot.j0 k true s p n E) (v, p + 1) ∧ (-9 ≤ v ∧ v ≤ 9) := fun p hp hq => by
    obtain ⟨b, hb, hb', _⟩ := ev_pick h (p := p) (by omega) 3 (by omega)
    have := hb' (by omega)
    have hv : -9 ≤ rd [(-1 : Int), n, 3] b ∧ rd [(-1 : Int), n, 3] b ≤ 9 := by
      obtain rfl | rfl | rfl : b = 0 ∨ b = 1 ∨ b = 2 := by omega
      · show (-9 : Int) ≤ -1 ∧ (-1 : Int) ≤ 9; omega
      · show -9 ≤ n ∧ n ≤ 9; omega
      · show (-9 : Int) ≤ 3 ∧ (3 : Int) ≤ 9; omega
    refine ⟨_, Ev.succ ?_, hv⟩
    simp only [spec_l71Knot.j0]
    exact Ev.pos trivial (Ev.bind0 rfl (Ev.bind hb (Ev.pos (by omega) (Ev.pos (by simp; omega) (Ev.now _)))))
  simp only [spec_l71Knot.f]
  by_cases h1 : n < 1
  · obtain ⟨v, hv, r⟩ := odd p hp (by omega)
    exact ⟨v, p + 1, Ev.pos h1 hv, r, by omega, by omega⟩
  · obtain ⟨a, ha, _⟩ := ev_pick h (p := p) (by omega) 24 (by omega)
    by_cases e : a = 0
    · obtain ⟨v, hv, r⟩ := odd (p + 1) (by omega) (by omega)
      refine ⟨v, p + 1 + 1, Ev.neg h1 (Ev.bind ha ?_), r, by omega, by omega⟩
      subst e
      exact hv
    · obtain ⟨b, hb, hb', _⟩ := ev_pick h (p := p + 1) (by omega) n (by omega)
      have := hb' (by omega)
      refine ⟨b, p + 1 + 1, Ev.neg h1 (Ev.bind ha ?_), by omega, by omega, by omega⟩
      dsimp only
      rw [beq_eq_false_iff_ne.2 e]
      refine Ev.succ ?_
      simp only [spec_l71Knot.j0]
      exact Ev.neg (by simp) (Ev.bind hb (Ev.now _))
theorem z90 {s : List Int} (h : Bytes s) (p : Int) (hp : 0 ≤ p) (hq : p ≤ 100700) : ∃ n E a b p', Ev (fun k => spec_l71Pair.f k s p) (n, E, a, b, p') ∧ Small n E ∧ (-9 ≤ a ∧ a ≤ 9) ∧ (-9 ≤ b ∧ b ≤ 9) ∧ 0 ≤ p' ∧ p' ≤ p + 70 := by
  obtain ⟨n, E, p1, hev, hs, hp1, hq1⟩ := z88 h p hp (by omega)
  obtain ⟨a, p2, ha, har, hp2, hq2⟩ := z89 h p1 hp1 (by omega) hs
  obtain ⟨b, p3, hb, hbr, hp3, hq3⟩ := z89 h p2 hp2 (by omega) hs
  have hn := hs.n
  simp only [spec_l71Pair.f]
  by_cases e : a = b
  · by_cases h1 : n > 1
    · obtain ⟨c, hc, _⟩ := ev_pick h (p := p3) (by omega) 8 (by omega)
      by_cases h2 : c > 0
      · refine ⟨n, E, a, _, p3 + 1, Ev.bind hev (Ev.bind ha (Ev.bind hb (Ev.pos e (Ev.pos h1 (Ev.bind hc (Ev.pos h2 (Ev.neg (by dsimp only; omega) (Ev.now _)))))))), hs, har, ?_, by omega, by omega⟩
        rw [w64 (by omega)]
        have := Int.tmod_lt_of_pos (a + 1) (show 0 < n by omega)
        have := Int.lt_tmod_of_pos (a + 1) (show 0 < n by omega)
        dsimp only; omega
      · exact ⟨n, E, a, b, p3 + 1, Ev.bind hev (Ev.bind ha (Ev.bind hb (Ev.pos e (Ev.pos h1 (Ev.bind hc (Ev.neg h2 (Ev.now _))))))), hs, har, hbr, by omega, by omega⟩
    · exact ⟨n, E, a, b, p3, Ev.bind hev (Ev.bind ha (Ev.bind hb (Ev.pos e (Ev.neg h1 (Ev.now _))))), hs, har, hbr, by omega, by omega⟩
  · exact ⟨n, E, a, b, p3, Ev.bind hev (Ev.bind ha (Ev.bind hb (Ev.neg e (Ev.now _)))), hs, har, hbr, by omega, by omega⟩
end Go.Proofs.Ytffflhmblelegaa.Th
namespace Go.Proofs.Ytffflhmblelegaa.Th
open Go.RowKit Go.Proofs.YtffflhmblelegaaW.PrintWords Go.Proofs.YtffflhmblelegaaW.PrintLast Go.Proofs.YtffflhmblelegaaW.PrintMore Go.Proofs.Ytffflhmblelegaa.F Classical
def unseen (out : List Int) : Nat := falses (out.map (fun x => decide (0 ≤ x)))
theorem z91 (out : List Int) : unseen out ≤ out.length := by unfold unseen; have := z19 (out.map (fun x => decide (0 ≤ x))); rwa [List.length_map] at this
theorem z92 {out : List Int} {i : Int} {v : Int} (h0 : 0 ≤ i) (h : i < out.length) (hn : rd out i < 0) (hv : 0 ≤ v) : unseen (out.set i.toNat v) + 1 = unseen out := by
  unfold unseen
  rw [List.map_set, decide_eq_true hv]
  refine z18 _ _ (by rw [List.length_map]; omega) ?_
  rw [List.getElem_map, decide_eq_false]
  rw [rd_i out i h0 h] at hn
  omega
structure FarS (n : Int) (E : List T) (b : Int) (out row : List Int) (at_ : Int → Prop) (m : Int) : Prop where
  len : out.length = n.toNat
  zero : rd out b = 0
  cap : ∀ x, In n x → rd out x + unseen out ≤ n
  low : ∀ x, In n x → -1 ≤ rd out x
  down : ∀ x, In n x → 0 ≤ rd out x → x = b ∨ ∃ c, Has E x c ∧ 0 ≤ rd out c ∧ rd out x = rd out c + 1
  rows : ∀ x ∈ row, In n x ∧ 0 ≤ rd out x
  inc : row.Pairwise (fun x y => rd out x ≤ rd out y)
  near : ∀ x ∈ row, m ≤ rd out x
  top : ∀ x, In n x → rd out x ≤ m + 1
  shut : ∀ x, In n x → 0 ≤ rd out x → x ∈ row ∨ at_ x ∨ ∀ c, Has E x c → 0 ≤ rd out c ∧ rd out c ≤ rd out x + 1
theorem FarS.far {n : Int} {E : List T} {b : Int} {out : List Int} {m : Int} (h : OK n E) (s : FarS n E b out [] (fun _ => False) m) : Far n E b out := by
  refine ⟨s.len, s.zero, s.down, fun x c hxc hx => ?_⟩
  rcases s.shut x (h.has hxc).1 hx with e | e | e
  · simp at e
  · exact e.elim
  · exact e c hxc
theorem far_go {n : Int} {E : List T} {b v : Int} (h : OK n E) (hv : In n v) (m : Nat) :
    ∀ (d j : Nat) (out row : List Int), j + d = (nextL n E v).length → FarS n E b out row (· = v) (rd out v) → 0 ≤ rd out v → (∀ i < j, 0 ≤ rd out (rd (nextL n E v) i)) → 2 * unseen out + row.length ≤ m → row.length + unseen out ≤ 100 →
      ∃ out2 row2 mm2, FarS n E b out2 row2 (fun _ => False) mm2 ∧ 2 * unseen out2 + row2.length ≤ m ∧ row2.length + unseen out2 ≤ 100 ∧ ∀ r, Ev (fun k => spec_l2Far.l1 k out2 row2 n E) r → Ev (fun k => spec_l2Far.l2 k out row v (nextL n E v) j n E) r
  | 0, j, out, row, hd, s, hv0, hj, hm, hb => by
    refine ⟨out, row, rd out v, ⟨s.len, s.zero, s.cap, s.low, s.down, s.rows, s.inc, s.near, s.top, fun x hx k => ?_⟩, hm, hb, fun r hr => Ev.succ ?_⟩
    · rcases s.shut x hx k with e | e | e
      · exact Or.inl e
      · subst e
        refine Or.inr (Or.inr (fun c hh => ?_))
        have hc := (h.has hh).2.1
        obtain ⟨i, hi, e⟩ := List.mem_iff_getElem.1 (mem_nextL.2 ⟨hc, hh⟩)
        have := hj i (by omega)
        rw [z20 _ i hi, e] at this
        exact ⟨this, s.top c hc⟩
      · exact Or.inr (Or.inr e)
    · simp only [spec_l2Far.l2]
      exact Ev.neg (by omega) hr
  | d + 1, j, out, row, hd, s, hv0, hj, hm, hb => by
    have hjl : j < (nextL n E v).length := by omega
    have hl := z53 n E v
    have h8 := h.n8
    have h0 := h.n0
    have hc := mem_nextL.1 (List.getElem_mem hjl)
    have hcap := s.cap v hv
    have hlen := s.len
    have hcl : (nextL n E v)[j] < (out.length : Int) := by have := hc.1.1; have := hc.1.2; omega
    have hvl : v < (out.length : Int) := by have := hv.1; have := hv.2; omega
    have hone : ∀ r, Ev (fun k => if rd out (nextL n E v)[j] < 0 then (if 0 ≤ v then (if v < (out.length : Int) then (if row.length < 17592186044416 then (spec_l2Far.l2 k (out.set ((nextL n E v)[j] : Int).toNat (wrap64 ((rd out v) + 1))) (row ++ [(nextL n E v)[j]]) v (nextL n E v) ((j : Int) + 1) n E) else (none)) else (none)) else (none)) else (spec_l2Far.l2 k out row v (nextL n E v) ((j : Int) + 1) n E)) r → Ev (fun k => spec_l2Far.l2 k out row v (nextL n E v) j n E) r := by
      intro r hr
      refine Ev.succ ?_
      simp only [spec_l2Far.l2, z20 _ j hjl]
      refine Ev.pos (by omega) (Ev.pos (by omega) (Ev.pos hc.1.1 (Ev.pos hcl ?_)))
      rw [w64 (x := (j : Int) + 1) (by omega)]
      exact hr
    revert hone
    generalize hcc : (nextL n E v)[j] = c at hc hcl ⊢
    intro hone
    by_cases e : rd out c < 0
    · have hset := fun x (hx : 0 ≤ x) => rd_set out c x (rd out v + 1) hc.1.1 hcl hx
      have hun := z92 (out := out) (v := rd out v + 1) hc.1.1 hcl e (by omega)
      have hcv : v ≠ c := fun k => by subst k; omega
      have hev : rd (out.set c.toNat (rd out v + 1)) v = rd out v := by rw [hset v hv.1, if_neg hcv]
      have hee : rd (out.set c.toNat (rd out v + 1)) c = rd out v + 1 := by rw [hset c hc.1.1, if_pos rfl]
      have hkeep : ∀ x, In n x → 0 ≤ rd out x → x ≠ c ∧ rd (out.set c.toNat (rd out v + 1)) x = rd out x := fun x hx k => by
        have hne : x ≠ c := fun k' => by subst k'; omega
        exact ⟨hne, by rw [hset x hx.1, if_neg hne]⟩
      have key := far_go (b := b) h hv m d (j + 1) (out.set c.toNat (rd out v + 1)) (row ++ [c]) (by omega) ?_ (by rw [hev]; exact hv0) ?_ (by rw [List.length_append, List.length_singleton]; omega) (by rw [List.length_append, List.length_singleton]; omega)
      · obtain ⟨o2, r2, mm2, s2, b1, b2, hr⟩ := key
        refine ⟨o2, r2, mm2, s2, b1, b2, fun r k => hone r (Ev.pos e (Ev.pos hv.1 (Ev.pos hvl (Ev.pos (by omega) ?_))))⟩
        rw [w64 (by omega)]
        exact_mod_cast hr r k
      · rw [hev]
        have hbn : 0 ≤ rd out b := by rw [s.zero]; omega
        refine ⟨by rw [List.length_set]; exact s.len, ?_, fun x hx => ?_, fun x hx => ?_, fun x hx => ?_, fun x hx => ?_, ?_, fun x hx => ?_, fun x hx => ?_, fun x hx => ?_⟩
        · by_cases hbc : b = c
          · subst hbc; omega
          · by_cases hb0 : 0 ≤ b
            · rw [hset b hb0, if_neg hbc]; exact s.zero
            · have hz := s.zero
              unfold rd at hz ⊢
              rw [List.getD_eq_getElem?_getD, List.getElem?_set_ne (by
                intro k
                have : b.toNat = 0 := by omega
                have hc0 : c.toNat = 0 := by omega
                have : c = 0 := by have := hc.1.1; omega
                subst this
                rw [rd_i out 0 (by omega) hcl] at e
                rw [show b.toNat = 0 by omega, List.getD_eq_getElem?_getD, List.getElem?_eq_getElem (by omega)] at hz
                simp at hz
                simp at e
                omega), ← List.getD_eq_getElem?_getD]
              exact hz
        · rw [hset x hx.1]
          split
          · omega
          · have := s.cap x hx; omega
        · rw [hset x hx.1]
          split
          · omega
          · exact s.low x hx
        · rw [hset x hx.1]
          split
          · next k =>
            subst k
            intro _
            exact Or.inr ⟨v, hc.2.symm, by rw [hev]; exact hv0, by rw [hev]⟩
          · intro k
            rcases s.down x hx k with q | ⟨y, hy, y0, ye⟩
            · exact Or.inl q
            · exact Or.inr ⟨y, hy, by rw [(hkeep y (h.has hy).2.1 y0).2]; exact y0, by rw [(hkeep y (h.has hy).2.1 y0).2]; exact ye⟩
        · rcases List.mem_append.1 hx with hx | hx
          · have := s.rows x hx
            exact ⟨this.1, by rw [(hkeep x this.1 this.2).2]; exact this.2⟩
          · rw [List.mem_singleton] at hx
            subst hx
            exact ⟨hc.1, by rw [hee]; omega⟩
        · rw [List.pairwise_append]
          refine ⟨(List.Pairwise.and_mem.1 s.inc).imp (fun {x y} k => ?_), by simp, fun x hx y hy => ?_⟩
          · obtain ⟨hx, hy, k⟩ := k
            have h1 := s.rows x hx
            have h2 := s.rows y hy
            rw [(hkeep x h1.1 h1.2).2, (hkeep y h2.1 h2.2).2]
            exact k
          · rw [List.mem_singleton] at hy
            subst hy
            have h1 := s.rows x hx
            rw [(hkeep x h1.1 h1.2).2, hee]
            exact s.top x h1.1
        · rcases List.mem_append.1 hx with hx | hx
          · have h1 := s.rows x hx
            rw [(hkeep x h1.1 h1.2).2]
            exact s.near x hx
          · rw [List.mem_singleton] at hx
            subst hx
            rw [hee]; omega
        · rw [hset x hx.1]
          split
          · omega
          · exact s.top x hx
        · rw [hset x hx.1]
          split
          · next k => subst k; intro _; exact Or.inl (by simp)
          · intro k
            rcases s.shut x hx k with q | q | q
            · exact Or.inl (by simp [q])
            · exact Or.inr (Or.inl q)
            · refine Or.inr (Or.inr (fun y hy => ?_))
              have := q y hy
              rw [(hkeep y (h.has hy).2.1 this.1).2]
              exact this
      · intro i hi
        by_cases hij : i = j
        · subst hij
          rw [z20 _ i hjl, hcc, hee]; omega
        · have k := hj i (by omega)
          have hin : In n (rd (nextL n E v) (i : Int)) := by
            rw [z20 _ i (by omega)]
            exact (mem_nextL.1 (List.getElem_mem _)).1
          rw [(hkeep _ hin k).2]
          exact k
    · have key := far_go (b := b) h hv m d (j + 1) out row (by omega) s hv0 (fun i hi => ?_) hm hb
      · obtain ⟨o2, r2, mm2, s2, b1, b2, hr⟩ := key
        refine ⟨o2, r2, mm2, s2, b1, b2, fun r k => hone r (Ev.neg e ?_)⟩
        exact_mod_cast hr r k
      · by_cases hij : i = j
        · subst hij; rw [z20 _ i hjl, hcc]; omega
        · exact hj i (by omega)
theorem z93 {n : Int} {E : List T} {b : Int} (h : OK n E) : ∀ (m : Nat) (out row : List Int) (mm : Int), FarS n E b out row (fun _ => False) mm → 2 * unseen out + row.length ≤ m → row.length + unseen out ≤ 100 → ∃ far, Ev (fun k => spec_l2Far.l1 k out row n E) far ∧ Far n E b far := by
  intro m
  induction m with
  | zero =>
    intro out row mm s hm _
    obtain rfl : row = [] := List.eq_nil_of_length_eq_zero (by omega)
    refine ⟨out, Ev.succ ?_, s.far h⟩
    simp only [spec_l2Far.l1]
    exact Ev.neg (by simp) (Ev.now _)
  | succ m ih =>
    intro out row mm s hm hb
    cases row with
    | nil =>
      refine ⟨out, Ev.succ ?_, s.far h⟩
      simp only [spec_l2Far.l1]
      exact Ev.neg (by simp) (Ev.now _)
    | cons v row =>
      have hv := s.rows v (by simp)
      have hE := h.length
      have h8 := h.n8
      obtain ⟨i1, i2⟩ := List.pairwise_cons.1 s.inc
      have hmv := s.near v (by simp)
      have s' : FarS n E b out row (· = v) (rd out v) := by
        refine ⟨s.len, s.zero, s.cap, s.low, s.down, fun x hx => s.rows x (List.mem_cons_of_mem _ hx), i2, fun x hx => i1 x hx, fun x hx => by have := s.top x hx; omega, fun x hx k => ?_⟩
        rcases s.shut x hx k with e | e | e
        · rcases List.mem_cons.1 e with e | e
          · exact Or.inr (Or.inl e)
          · exact Or.inl e
        · exact e.elim
        · exact Or.inr (Or.inr e)
      simp only [List.length_cons] at hm hb
      obtain ⟨o2, r2, mm2, s2, b1, b2, hr⟩ := far_go (b := b) h hv.1 m (nextL n E v).length 0 out row (by omega) s' hv.2 (fun i hi => absurd hi (by omega)) (by omega) (by omega)
      obtain ⟨far, e1, hfar⟩ := ih o2 r2 mm2 s2 b1 b2
      have hev := hr far e1
      refine ⟨far, Ev.succ ?_, hfar⟩
      simp only [spec_l2Far.l1]
      refine Ev.pos (by simp) (Ev.pos (by simp) ?_)
      rw [show rd (v :: row) 0 = v from rfl]
      refine Ev.bind (z55 v (by omega) h.n0 (by omega)) (Ev.pos (by simp; omega) ?_)
      exact hev
theorem z94 {n : Int} {E : List T} {b : Int} {r : List Int} (h8 : n ≤ 8) (hb : In n b) (hk : Ev (fun k => spec_l2Far.l1 k (((ks n).map (fun _ => (-1 : Int))).set b.toNat 0) [b] n E) r) : ∀ (d i : Nat), (i : Int) + d = n →
    Ev (fun k => spec_l2Far.l0 k b ((ks i).map (fun _ => (-1 : Int))) i n E) r
  | 0, i, hd => by
    have e : n = (i : Int) := by omega
    have hb1 := hb.1
    have hb2 := hb.2
    refine Ev.succ ?_
    simp only [spec_l2Far.l0]
    refine Ev.neg (by omega) (Ev.pos hb.1 (Ev.pos (by rw [List.length_map, z12]; omega) ?_))
    rw [e] at hk ⊢
    exact hk
  | d + 1, i, hd => by
    have ih := z94 h8 hb hk d (i + 1) (by omega)
    refine Ev.succ ?_
    simp only [spec_l2Far.l0]
    refine Ev.pos (by omega) (Ev.pos (by rw [List.length_map, z12]; omega) ?_)
    rw [w64 (by omega)]
    have e : (ks ((i + 1 : Nat) : Int)).map (fun _ => (-1 : Int)) = (ks i).map (fun _ => (-1 : Int)) ++ [-1] := by
      rw [show ((i + 1 : Nat) : Int) = (i : Int) + 1 by omega, ks_succ (by omega), List.map_append]; rfl
    rw [e] at ih
    exact_mod_cast ih
theorem ev_l2Far {n : Int} {E : List T} {b : Int} (h : OK n E) (hb : In n b) : ∃ far, Ev (fun k => spec_l2Far.f k n E b) far ∧ Far n E b far := by
  have h8 := h.n8
  have h0 := h.n0
  have hbl : b < (((ks n).map (fun _ => (-1 : Int))).length : Int) := by rw [List.length_map, z12]; have := hb.1; have := hb.2; omega
  have hset := fun x (hx : 0 ≤ x) => rd_set ((ks n).map (fun _ => (-1 : Int))) b x 0 hb.1 hbl hx
  have hm1 : ∀ x, In n x → rd ((ks n).map (fun _ => (-1 : Int))) x = -1 := fun x hx => rd_mapks n (fun _ => -1) x hx.1 hx.2
  have hval : ∀ x, In n x → rd (((ks n).map (fun _ => (-1 : Int))).set b.toNat 0) x = if x = b then 0 else -1 := fun x hx => by rw [hset x hx.1, hm1 x hx]
  have hun := z92 (out := (ks n).map (fun _ => (-1 : Int))) (v := 0) hb.1 hbl (by rw [hm1 b hb]; omega) (by omega)
  have hule := z91 ((ks n).map (fun _ => (-1 : Int)))
  rw [List.length_map, z12] at hule
  have s : FarS n E b (((ks n).map (fun _ => (-1 : Int))).set b.toNat 0) [b] (fun _ => False) 0 := by
    refine ⟨by rw [List.length_set, List.length_map, z12], by rw [hval b hb, if_pos rfl], fun x hx => ?_, fun x hx => ?_, fun x hx k => ?_, fun x hx => ?_, by simp, fun x hx => ?_, fun x hx => ?_, fun x hx k => ?_⟩
    · rw [hval x hx]; split <;> omega
    · rw [hval x hx]; split <;> omega
    · rw [hval x hx] at k
      by_cases e : x = b
      · exact Or.inl e
      · rw [if_neg e] at k; omega
    · rw [List.mem_singleton] at hx
      subst hx
      exact ⟨hb, by rw [hval x hb, if_pos rfl]; omega⟩
    · rw [List.mem_singleton] at hx
      subst hx
      rw [hval x hb, if_pos rfl]; omega
    · rw [hval x hx]; split <;> omega
    · rw [hval x hx] at k
      by_cases e : x = b
      · exact Or.inl (by simp [e])
      · rw [if_neg e] at k; omega
  obtain ⟨far, e1, e2⟩ := z93 h (2 * unseen (((ks n).map (fun _ => (-1 : Int))).set b.toNat 0) + 1) _ [b] 0 s (by simp) (by simp; omega)
  refine ⟨far, ?_, e2⟩
  have := z94 h8 hb e1 n.toNat 0 (by omega)
  simp only [spec_l2Far.f]
  exact this
theorem z95 {n : Int} {E : List T} {b x : Int} {far : List Int} (h : OK n E) (f : Far n E b far) (hx : In n x) {r : List Int × Bool} {out : List Int} (ho : out.length ≤ 1000) {d : Nat} (hd : rd far x = (d : Int) + 1) (hdl : d ≤ 1000)
    (hk : ∀ c, In n c → (nextL n E x).find? (fun c => decide (rd far c = (d : Int))) = some c → Ev (fun k => spec_WayFind.l0 k b (out ++ [c]) far c n E) r) :
    ∀ (e j : Nat), j + e = (nextL n E x).length → (∀ i < j, rd far (rd (nextL n E x) i) ≠ (d : Int)) → Ev (fun k => spec_WayFind.l1 k b out far x (nextL n E x) j n E) r
  | 0, j, he, hj => by
    exfalso
    obtain ⟨h1, h2, h3, _⟩ := z64 h f hx hd
    obtain ⟨i, hi, e⟩ := List.mem_iff_getElem.1 (mem_nextL.2 ⟨h2, h1⟩)
    have := hj i (by omega)
    rw [z20 _ i hi, e] at this
    exact this h3
  | e + 1, j, he, hj => by
    have hjl : j < (nextL n E x).length := by omega
    have hl := z53 n E x
    have h8 := h.n8
    have hc := mem_nextL.1 (List.getElem_mem hjl)
    have hlen := f.len
    have hx1 := hx.1
    have hx2 := hx.2
    have hc1 := hc.1.1
    have hc2 := hc.1.2
    refine Ev.succ ?_
    simp only [spec_WayFind.l1, z20 _ j hjl]
    refine Ev.pos (by omega) (Ev.pos (by omega) (Ev.pos hc.1.1 (Ev.pos (by omega) (Ev.pos hx.1 (Ev.pos (by omega) ?_)))))
    rw [hd, w64 (x := (d : Int) + 1 - 1) (by omega), show (d : Int) + 1 - 1 = d by omega]
    by_cases q : rd far (nextL n E x)[j] = (d : Int)
    · refine Ev.pos q (Ev.pos (by omega) (hk _ hc.1 ?_))
      have e1 : nextL n E x = (nextL n E x).take j ++ (nextL n E x)[j] :: (nextL n E x).drop (j + 1) := by rw [← List.drop_eq_getElem_cons hjl, List.take_append_drop]
      rw [List.find?_eq_some_iff_append]
      refine ⟨decide_eq_true q, _, _, e1, fun c hcm => ?_⟩
      obtain ⟨i, hi, ei⟩ := List.mem_iff_getElem.1 hcm
      rw [List.length_take] at hi
      rw [List.getElem_take] at ei
      have := hj i (by omega)
      rw [z20 _ i (by omega), ei] at this
      simpa using this
    · refine Ev.neg q ?_
      rw [w64 (by omega)]
      have key := z95 h f hx ho hd hdl hk e (j + 1) (by omega) (fun i hi => by
        by_cases hij : i = j
        · subst hij; rw [z20 _ i hjl]; exact q
        · exact hj i (by omega))
      exact_mod_cast key
theorem z96 {n : Int} {E : List T} {b : Int} {far : List Int} (h : OK n E) (f : Far n E b far) : ∀ (d : Nat) (x : Int) (out : List Int), In n x → rd far x = d → out.length + d ≤ 1000 → Ev (fun k => spec_WayFind.l0 k b out far x n E) (out ++ (greedyW n E far d x).drop 1, true)
  | 0, x, out, hx, hd, _ => by
    have hxb : x = b := by
      rcases f.down x hx (by omega) with e | ⟨c, _, k1, k2⟩
      · exact e
      · omega
    refine Ev.succ ?_
    simp only [spec_WayFind.l0]
    exact Ev.pos hxb (Ev.some_ (by simp [greedyW]))
  | d + 1, x, out, hx, hd, ho => by
    have hxb : ¬ x = b := fun e => by subst e; have := f.zero; omega
    have hE := h.length
    have h8 := h.n8
    refine Ev.succ ?_
    simp only [spec_WayFind.l0]
    refine Ev.neg hxb (Ev.bind (z55 x (by omega) h.n0 (by omega)) ?_)
    have key := z95 (r := (out ++ (greedyW n E far (d + 1) x).drop 1, true)) (out := out) h f hx (by omega) (d := d) (by omega) (by omega) (fun c hc hfind => ?_) (nextL n E x).length 0 (by omega) (fun i hi => absurd hi (by omega))
    · exact key
    · have hn : nearest n E far d x = c := by unfold nearest; rw [hfind]; rfl
      have hfc : rd far c = d := by
        have := List.find?_some (p := fun c => decide (rd far c = (d : Int))) hfind
        exact of_decide_eq_true this
      have ih := z96 h f d c (out ++ [c]) hc hfc (by rw [List.length_append, List.length_singleton]; omega)
      refine Ev.cast ih ?_
      have e1 : (greedyW n E far (d + 1) x).drop 1 = greedyW n E far d c := by rw [greedyW, hn]; rfl
      have e2 : [c] ++ (greedyW n E far d c).drop 1 = greedyW n E far d c := by cases d <;> simp [greedyW]
      rw [e1, List.append_assoc, e2]
theorem z97 (n : Int) (E : List T) (a b : Int) (hE : E.length ≤ 1048576) (hw : WF E) : Ev (fun k => spec_WayFind.f k n E a b) (wayFind n E a b) := by
  simp only [spec_WayFind.f]
  refine Ev.bind0 (a := []) rfl (Ev.bind (z10 n E a hE hw) ?_)
  unfold wayFind
  by_cases h1 : OK n E ∧ In n a
  · refine Ev.pos (dec_t h1) (Ev.bind (z10 n E b hE hw) (Ev.succ ?_))
    simp only [spec_WayFind.j0]
    by_cases h2 : OK n E ∧ In n b
    · rw [dec_t h2]
      obtain ⟨far, e1, f⟩ := ev_l2Far h1.1 h2.2
      have hlen := f.len
      have ha1 := h1.2.1
      have ha2 := h1.2.2
      have h8 := h1.1.n8
      refine Ev.neg (by simp) (Ev.bind e1 (Ev.pos h1.2.1 (Ev.pos (by omega) ?_)))
      have hcn := far_conn h1.1 f h1.2
      by_cases hc : Conn E a b
      · rw [if_pos ⟨h1, h2, hc⟩]
        have h0 := hcn.2 hc
        have hg := z69 h1.1 f h1.2 (d := (rd far a).toNat) (by omega)
        have hle := (f.le _ a (z68 h1.1 h1.2 hc)).2
        have hl8 := (z68 h1.1 h1.2 hc).len h1.1 h1.2
        refine Ev.neg (by omega) (Ev.pos (by simp) (Ev.cast (z96 h1.1 f (rd far a).toNat a [a] h1.2 (by omega) (by simp; omega)) ?_))
        rw [← hg]
        cases (rd far a).toNat <;> simp [greedyW]
      · rw [if_neg (fun k => hc k.2.2)]
        refine Ev.pos ?_ (Ev.now _)
        have : ¬ 0 ≤ rd far a := fun k => hc (hcn.1 k)
        omega
    · rw [if_neg (fun k => h2 k.2.1), dec_f h2]
      exact Ev.pos rfl (Ev.now _)
  · rw [if_neg (fun k => h1 k.1)]
    refine Ev.neg (by rw [dec_f h1]; simp) (Ev.succ ?_)
    simp only [spec_WayFind.j0]
    exact Ev.pos trivial (Ev.now _)
end Go.Proofs.Ytffflhmblelegaa.Th
namespace Go.Proofs.Ytffflhmblelegaa.Th
open Go.RowKit Go.Proofs.YtffflhmblelegaaW.PrintWords Go.Proofs.YtffflhmblelegaaW.PrintMore Go.Proofs.Ytffflhmblelegaa.F
theorem ev_l2Has (l : List Int) (x : Int) (hl : l.length ≤ 1048576) : Ev (fun k => spec_l2Has.f k l x) (dec (x ∈ l)) := by
  simp only [spec_l2Has.f]
  have := any_loop (L := fun k i => spec_l2Has.l0 k l x i) l.length (fun j => rd l (j : Int) = x) ?_ ?_ ?_ l.length 0 (by omega)
  · exact Ev.cast this (z0 (z21 l x).symm)
  · refine Ev.succ ?_
    simp only [spec_l2Has.l0]
    exact Ev.neg (by omega) (Ev.now _)
  · intro i hi hp b hb
    refine Ev.succ ?_
    simp only [spec_l2Has.l0]
    refine Ev.pos (by omega) (Ev.pos (by omega) (Ev.neg hp ?_))
    rw [w64 (by omega)]
    exact hb
  · intro i hi hp
    refine Ev.succ ?_
    simp only [spec_l2Has.l0]
    exact Ev.pos (by omega) (Ev.pos (by omega) (Ev.pos hp (Ev.now _)))
theorem z98 (n : Int) (E : List T) (w : List Int) (hE : E.length ≤ 1048576) (hw : WF E) (hl : w.length ≤ 1048576) : Ev (fun k => spec_WayOk.f k n E w) (dec (OK n E ∧ IsWay n E w)) := by
  simp only [spec_WayOk.f]
  refine Ev.bind (z3 n E hE hw) ?_
  by_cases ok : OK n E
  · refine Ev.pos (dec_t ok) (Ev.succ ?_)
    simp only [spec_WayOk.j0]
    by_cases h0 : (w.length : Int) < 1
    · refine Ev.pos (decide_eq_true h0) (Ev.ff (fun h => h.2.ne (List.length_eq_zero_iff.1 (by omega))) (Ev.now _))
    · refine Ev.neg (by simp only [decide_eq_true_eq]; exact h0) ?_
      have := all_loop (L := fun k i => spec_WayOk.l0 k w i n E) w.length (WayAt n E w) ?_ ?_ ?_ w.length 0 (by omega)
      · refine Ev.cast this (z0 ?_)
        rw [z28]
        exact ⟨fun h => ⟨ok, fun e => by subst e; simp at h0, h⟩, fun h => h.2.2⟩
      · refine Ev.succ ?_
        simp only [spec_WayOk.l0]
        exact Ev.neg (by omega) (Ev.now _)
      · intro i hi hp b hb
        refine Ev.succ ?_
        simp only [spec_WayOk.l0]
        refine Ev.pos (by omega) (Ev.pos (by omega) (Ev.bind (z10 n E _ hE hw) (Ev.pos (dec_t ⟨ok, hp.1⟩) (Ev.pos (by omega) ?_))))
        rw [Int.toNat_natCast]
        refine Ev.bind (ev_l2Has _ _ (by simp; omega)) (Ev.neg (by rw [dec_f hp.2.1]; simp) ?_)
        cases i with
        | zero => exact Ev.neg (by omega) (by rw [w64 (by omega)]; exact hb)
        | succ j =>
          refine Ev.pos (by omega) ?_
          have hj : wrap64 (((j + 1 : Nat) : Int) - 1) = (j : Int) := by rw [w64 (by omega)]; omega
          rw [hj]
          refine Ev.pos (by omega) (Ev.pos (by omega) (Ev.bind (z11 n E _ _ hE hw) (Ev.pos (dec_t ⟨ok, hp.2.2 (by omega)⟩) ?_)))
          rw [w64 (by omega)]; exact hb
      · intro i hi hp
        refine Ev.succ ?_
        simp only [spec_WayOk.l0]
        refine Ev.pos (by omega) (Ev.pos (by omega) (Ev.bind (z10 n E _ hE hw) ?_))
        by_cases h1 : In n (rd w (i : Int))
        · refine Ev.pos (dec_t ⟨ok, h1⟩) (Ev.pos (by omega) ?_)
          rw [Int.toNat_natCast]
          refine Ev.bind (ev_l2Has _ _ (by simp; omega)) ?_
          by_cases h2 : rd w (i : Int) ∈ w.take i
          · exact Ev.pos (dec_t h2) (Ev.now _)
          · refine Ev.neg (by rw [dec_f h2]; simp) ?_
            cases i with
            | zero => exact absurd ⟨h1, h2, fun h => absurd h (by omega)⟩ hp
            | succ j =>
              refine Ev.pos (by omega) ?_
              have hj : wrap64 (((j + 1 : Nat) : Int) - 1) = (j : Int) := by rw [w64 (by omega)]; omega
              rw [hj]
              refine Ev.pos (by omega) (Ev.pos (by omega) (Ev.bind (z11 n E _ _ hE hw) (Ev.neg ?_ (Ev.now _))))
              rw [dec_f (fun h => hp ⟨h1, h2, fun _ => h.2⟩)]; simp
        · exact Ev.neg (by rw [dec_f (fun h => h1 h.2)]; simp) (Ev.now _)
  · refine Ev.neg (by rw [dec_f ok]; simp) (Ev.succ ?_)
    simp only [spec_WayOk.j0]
    exact Ev.pos trivial (Ev.ff (fun h => ok h.1) (Ev.now _))
theorem ev_walk (n : Int) (E : List T) (w : List Int) (hE : E.length ≤ 1048576) (hl : w.length ≤ 1048576) : Ev (fun k => impl_Net_walk.f k n E w) (dec ((∀ v ∈ w, In n v) ∧ Walk (Has E) w)) := by
  simp only [impl_Net_walk.f]
  have := all_loop (L := fun k i => impl_Net_walk.l0 k w w w.length i n E) w.length (fun j => In n (rd w (j : Int)) ∧ (0 < j → Has E (rd w ((j - 1 : Nat) : Int)) (rd w (j : Int)))) ?_ ?_ ?_ w.length 0 (by omega)
  · refine Ev.cast this (z0 ?_)
    constructor
    · intro h
      refine ⟨fun v hv => ?_, (walk_iff _ w).2 fun j hj => (h (j + 1) (Nat.zero_le _) hj).2 (by omega)⟩
      obtain ⟨j, _, hj, rfl⟩ := (z21 w v).1 hv
      exact (h j (Nat.zero_le _) hj).1
    · intro h j _ hj
      refine ⟨h.1 _ (by rw [z20 w j hj]; exact List.getElem_mem hj), fun h0 => ?_⟩
      have := (walk_iff _ w).1 h.2 (j - 1) (by omega)
      rwa [show j - 1 + 1 = j by omega] at this
  · refine Ev.succ ?_
    simp only [impl_Net_walk.l0]
    exact Ev.neg (by omega) (Ev.now _)
  · intro i hi hp b hb
    refine Ev.succ ?_
    simp only [impl_Net_walk.l0]
    refine Ev.pos (by omega) (Ev.pos (by omega) (Ev.pos (by omega) (Ev.bind0 (knot_eq n E _) (Ev.pos (dec_t hp.1) ?_))))
    cases i with
    | zero => exact Ev.neg (by omega) (by rw [w64 (by omega)]; exact hb)
    | succ j =>
      refine Ev.pos (by omega) ?_
      have hj : wrap64 (((j + 1 : Nat) : Int) - 1) = (j : Int) := by rw [w64 (by omega)]; omega
      rw [hj]
      refine Ev.pos (by omega) (Ev.pos (by omega) (Ev.bind (ev_has n E _ _ hE) (Ev.pos (dec_t (hp.2 (by omega))) ?_)))
      rw [w64 (by omega)]; exact hb
  · intro i hi hp
    refine Ev.succ ?_
    simp only [impl_Net_walk.l0]
    refine Ev.pos (by omega) (Ev.pos (by omega) (Ev.pos (by omega) (Ev.bind0 (knot_eq n E _) ?_)))
    by_cases h1 : In n (rd w (i : Int))
    · refine Ev.pos (dec_t h1) ?_
      cases i with
      | zero => exact absurd ⟨h1, fun h => absurd h (by omega)⟩ hp
      | succ j =>
        refine Ev.pos (by omega) ?_
        have hj : wrap64 (((j + 1 : Nat) : Int) - 1) = (j : Int) := by rw [w64 (by omega)]; omega
        rw [hj]
        refine Ev.pos (by omega) (Ev.pos (by omega) (Ev.bind (ev_has n E _ _ hE) (Ev.neg ?_ (Ev.now _))))
        rw [dec_f (show ¬ Has E (rd w (j : Int)) (rd w ((j + 1 : Nat) : Int)) from fun h => hp ⟨h1, fun _ => h⟩)]; simp
    · exact Ev.neg (by rw [dec_f h1]; simp) (Ev.now _)
theorem z99 (w : List Int) (hl : w.length ≤ 1048576) : Ev (fun k => impl_different.f k w) (dec w.Nodup) := by
  simp only [impl_different.f]
  have := all_loop (L := fun k i => impl_different.l0 k w w w.length i) w.length (fun j => rd w (j : Int) ∉ w.take j) ?_ ?_ ?_ w.length 0 (by omega)
  · refine Ev.cast this (z0 ?_)
    rw [nodup_iff]
    exact ⟨fun h j hj => h j (Nat.zero_le _) hj, fun h j _ hj => h j hj⟩
  · refine Ev.succ ?_
    simp only [impl_different.l0]
    exact Ev.neg (by omega) (Ev.now _)
  · intro i hi hp b hb
    refine Ev.succ ?_
    simp only [impl_different.l0]
    refine Ev.pos (by omega) (Ev.pos (by omega) (Ev.pos (by omega) (Ev.pos (by omega) ?_)))
    rw [Int.toNat_natCast]
    refine Ev.bind (z44 _ _ (by simp; omega)) (Ev.neg (by rw [dec_f hp]; simp) ?_)
    rw [w64 (by omega)]; exact hb
  · intro i hi hp
    refine Ev.succ ?_
    simp only [impl_different.l0]
    refine Ev.pos (by omega) (Ev.pos (by omega) (Ev.pos (by omega) (Ev.pos (by omega) ?_)))
    rw [Int.toNat_natCast]
    exact Ev.bind (z44 _ _ (by simp; omega)) (Ev.pos (dec_t (Decidable.not_not.1 hp)) (Ev.now _))
theorem z100 (n : Int) (E : List T) (w : List Int) (hE : E.length ≤ 1048576) (hl : w.length ≤ 1048576) : Ev (fun k => impl_WayOk.f k n E w) (dec (OK n E ∧ IsWay n E w)) := by
  simp only [impl_WayOk.f]
  refine Ev.bind (z8 n E hE) ?_
  by_cases ok : OK n E
  · refine Ev.pos (dec_t ok) ?_
    by_cases h0 : (w.length : Int) > 0
    · refine Ev.pos h0 (Ev.bind (ev_walk n E w hE hl) ?_)
      by_cases h1 : (∀ v ∈ w, In n v) ∧ Walk (Has E) w
      · refine Ev.pos (dec_t h1) (Ev.bind (z99 w hl) (Ev.some_ (z0 ?_)))
        exact ⟨fun h => ⟨ok, fun e => by subst e; simp at h0, h1.1, h, h1.2⟩, fun h => h.2.nd⟩
      · exact Ev.neg (by rw [dec_f h1]; simp) (Ev.ff (fun h => h1 ⟨h.2.inn, h.2.walk⟩) (Ev.now _))
    · exact Ev.neg h0 (Ev.ff (fun h => h.2.ne (List.length_eq_zero_iff.1 (by omega))) (Ev.now _))
  · exact Ev.neg (by rw [dec_f ok]; simp) (Ev.ff (fun h => ok h.1) (Ev.now _))
theorem z101 (n : Int) (E : List T) (a b : Int) (w : List Int) (hE : E.length ≤ 1048576) (hw : WF E) (hl : w.length ≤ 1048576) : Ev (fun k => spec_l13Ends.f k n E a b w) (dec (Leads n E a b w)) := by
  simp only [spec_l13Ends.f]
  refine Ev.bind (z98 n E w hE hw hl) ?_
  by_cases h : OK n E ∧ IsWay n E w
  · have h0 : 0 < w.length := List.length_pos_iff.2 h.2.ne
    refine Ev.pos (dec_t h) (Ev.pos (by omega) ?_)
    by_cases ha : rd w 0 = a
    · refine Ev.pos ha ?_
      rw [w64 (by omega)]
      refine Ev.pos (by omega) (Ev.pos (by omega) (Ev.some_ (dec_of ?_)))
      rw [beq_iff_eq]
      exact ⟨fun hb => ⟨h.1, h.2, ha, hb⟩, fun k => k.2.2.2⟩
    · exact Ev.neg ha (Ev.ff (fun k => ha k.2.2.1) (Ev.now _))
  · exact Ev.neg (by rw [dec_f h]; simp) (Ev.ff (fun k => h ⟨k.1, k.2.1⟩) (Ev.now _))
theorem ev_leads (n : Int) (E : List T) (a b : Int) (w : List Int) (hE : E.length ≤ 1048576) (hl : w.length ≤ 1048576) : Ev (fun k => impl_leads.f k n E w a b) (dec (Leads n E a b w)) := by
  simp only [impl_leads.f]
  refine Ev.bind (z100 n E w hE hl) ?_
  by_cases h : OK n E ∧ IsWay n E w
  · have h0 : 0 < w.length := List.length_pos_iff.2 h.2.ne
    refine Ev.pos (dec_t h) (Ev.pos (by omega) ?_)
    by_cases ha : rd w 0 = a
    · refine Ev.pos ha ?_
      rw [w64 (by omega)]
      refine Ev.pos (by omega) (Ev.pos (by omega) (Ev.some_ (dec_of ?_)))
      rw [beq_iff_eq]
      exact ⟨fun hb => ⟨h.1, h.2, ha, hb⟩, fun k => k.2.2.2⟩
    · exact Ev.neg ha (Ev.ff (fun k => ha k.2.2.1) (Ev.now _))
  · exact Ev.neg (by rw [dec_f h]; simp) (Ev.ff (fun k => h ⟨k.1, k.2.1⟩) (Ev.now _))
theorem z102 (n : Int) (E : List T) (a b : Int) (x y : List Int) (hE : E.length ≤ 1048576) (hw : WF E) (hx : x.length ≤ 1048576) (hy : y.length ≤ 1048576) : Ev (fun k => spec_TwoOk.f k n E a b x y) (dec (Two n E a b x y)) := by
  simp only [spec_TwoOk.f]
  have no : ¬ Two n E a b x y → Ev (fun k => spec_TwoOk.j0 k x y true) (dec (Two n E a b x y)) := fun h => by
    refine Ev.succ ?_
    simp only [spec_TwoOk.j0]
    exact Ev.pos trivial (Ev.ff h (Ev.now _))
  by_cases hab : a = b
  · exact Ev.pos hab (no (fun h => h.1 hab))
  · refine Ev.neg hab (Ev.bind (z101 n E a b x hE hw hx) ?_)
    by_cases h1 : Leads n E a b x
    · refine Ev.pos (dec_t h1) (Ev.bind (z101 n E a b y hE hw hy) ?_)
      by_cases h2 : Leads n E a b y
      · refine Ev.pos (dec_t h2) ?_
        have go : ¬ (x.length = 2 ∧ y.length = 2) → Ev (fun k => spec_TwoOk.j0 k x y false) (dec (Two n E a b x y)) := fun h3 => by
          refine Ev.succ ?_
          simp only [spec_TwoOk.j0]
          refine Ev.neg (by simp) ?_
          have hx2 := h1.two hab
          have := all_loop (L := fun k i => spec_TwoOk.l0 k x y i) (x.length - 1) (fun j => rd x (j : Int) ∉ y) ?_ ?_ ?_ (x.length - 2) 1 (by omega)
          · refine Ev.cast this (z0 ?_)
            exact ⟨fun h => ⟨hab, h1, h2, h3, fun i a b => h i a (by omega)⟩, fun h i a b => h.2.2.2.2 i a (by omega)⟩
          · refine Ev.succ ?_
            simp only [spec_TwoOk.l0]
            rw [w64 (by omega)]
            exact Ev.neg (by omega) (Ev.now _)
          · intro i hi hp c hc
            refine Ev.succ ?_
            simp only [spec_TwoOk.l0]
            rw [w64 (by omega)]
            refine Ev.pos (by omega) (Ev.pos (by omega) (Ev.pos (by omega) (Ev.bind (ev_l2Has _ _ hy) (Ev.neg (by rw [dec_f hp]; simp) ?_))))
            exact hc
          · intro i hi hp
            refine Ev.succ ?_
            simp only [spec_TwoOk.l0]
            rw [w64 (by omega)]
            exact Ev.pos (by omega) (Ev.pos (by omega) (Ev.pos (by omega) (Ev.bind (ev_l2Has _ _ hy) (Ev.pos (dec_t (Decidable.not_not.1 hp)) (Ev.now _)))))
        by_cases hx2 : (x.length : Int) = 2
        · refine Ev.pos hx2 ?_
          by_cases hy2 : (y.length : Int) = 2
          · rw [show ((y.length : Int) == 2) = true by simp [hy2]]
            exact no (fun h => h.2.2.2.1 ⟨by omega, by omega⟩)
          · rw [show ((y.length : Int) == 2) = false by simp [hy2]]
            exact go (by omega)
        · exact Ev.neg hx2 (go (by omega))
      · exact Ev.neg (by rw [dec_f h2]; simp) (no (fun h => h2 h.2.2.1))
    · exact Ev.neg (by rw [dec_f h1]; simp) (no (fun h => h1 h.2.1))
theorem z103 (x y : List Int) (hx : 2 ≤ x.length) (hx' : x.length ≤ 1048576) (hy : y.length ≤ 1048576) : Ev (fun k => impl_disjoint.f k x y) (dec (Apart x y)) := by
  simp only [impl_disjoint.f]
  have go : ¬ (x.length = 2 ∧ y.length = 2) → Ev (fun k => impl_disjoint.j0 k x y false) (dec (Apart x y)) := fun h3 => by
    refine Ev.succ ?_
    simp only [impl_disjoint.j0]
    refine Ev.neg (by simp) ?_
    rw [w64 (by omega)]
    refine Ev.pos (by omega) (Ev.pos (by omega) ?_)
    have e1 : ((x.length : Int) - 1).toNat = x.length - 1 := by omega
    rw [e1]
    have hlen : ((x.take (x.length - 1)).drop 1).length = x.length - 2 := by simp; omega
    have hrd : ∀ i : Nat, i < x.length - 2 → rd ((x.take (x.length - 1)).drop 1) (i : Int) = rd x ((i + 1 : Nat) : Int) := fun i hi => by
      rw [z20 _ i (by omega), z20 _ (i + 1) (by omega)]
      simp
    have := all_loop (L := fun k i => impl_disjoint.l0 k y ((x.take (x.length - 1)).drop 1) (((x.take (x.length - 1)).drop 1).length : Int) i) (x.length - 2) (fun j => rd x ((j + 1 : Nat) : Int) ∉ y) ?_ ?_ ?_ (x.length - 2) 0 (by omega)
    · refine Ev.cast this (z0 ?_)
      refine ⟨fun h => ⟨h3, fun i a b => ?_⟩, fun h i a b => h.2 (i + 1) (by omega) (by omega)⟩
      have := h (i - 1) (Nat.zero_le _) (by omega)
      rwa [show i - 1 + 1 = i by omega] at this
    · refine Ev.succ ?_
      simp only [impl_disjoint.l0]
      exact Ev.neg (by omega) (Ev.now _)
    · intro i hi hp c hc
      refine Ev.succ ?_
      simp only [impl_disjoint.l0]
      refine Ev.pos (by omega) (Ev.pos (by omega) (Ev.pos (by omega) ?_))
      rw [hrd i hi]
      refine Ev.bind (z44 _ _ hy) (Ev.neg (by rw [dec_f hp]; simp) ?_)
      rw [w64 (by omega)]
      exact hc
    · intro i hi hp
      refine Ev.succ ?_
      simp only [impl_disjoint.l0]
      refine Ev.pos (by omega) (Ev.pos (by omega) (Ev.pos (by omega) ?_))
      rw [hrd i hi]
      exact Ev.bind (z44 _ _ hy) (Ev.pos (dec_t (Decidable.not_not.1 hp)) (Ev.now _))
  by_cases hx2 : (x.length : Int) = 2
  · refine Ev.pos hx2 ?_
    by_cases hy2 : (y.length : Int) = 2
    · rw [show ((y.length : Int) == 2) = true by simp [hy2]]
      refine Ev.succ ?_
      simp only [impl_disjoint.j0]
      exact Ev.pos trivial (Ev.ff (fun h => h.1 ⟨by omega, by omega⟩) (Ev.now _))
    · rw [show ((y.length : Int) == 2) = false by simp [hy2]]
      exact go (by omega)
  · exact Ev.neg hx2 (go (by omega))
theorem z104 (n : Int) (E : List T) (a b : Int) (x y : List Int) (hE : E.length ≤ 1048576) (hx : x.length ≤ 1048576) (hy : y.length ≤ 1048576) : Ev (fun k => impl_TwoOk.f k n E a b x y) (dec (Two n E a b x y)) := by
  simp only [impl_TwoOk.f]
  by_cases hab : a = b
  · exact Ev.pos hab (Ev.ff (fun h => h.1 hab) (Ev.now _))
  · refine Ev.neg hab (Ev.bind (ev_leads n E a b x hE hx) ?_)
    by_cases h1 : Leads n E a b x
    · refine Ev.pos (dec_t h1) (Ev.bind (ev_leads n E a b y hE hy) ?_)
      by_cases h2 : Leads n E a b y
      · refine Ev.pos (dec_t h2) (Ev.bind (z103 x y (h1.two hab) hx hy) (Ev.some_ (z0 ?_)))
        exact ⟨fun h => ⟨hab, h1, h2, h⟩, fun h => h.2.2.2⟩
      · exact Ev.neg (by rw [dec_f h2]; simp) (Ev.ff (fun h => h2 h.2.2.1) (Ev.now _))
    · exact Ev.neg (by rw [dec_f h1]; simp) (Ev.ff (fun h => h1 h.2.1) (Ev.now _))
end Go.Proofs.Ytffflhmblelegaa.Th
namespace Go.Proofs.Ytffflhmblelegaa.Th
open Go.RowKit Go.Proofs.YtffflhmblelegaaW.PrintWords Go.Proofs.YtffflhmblelegaaW.PrintLast Go.Proofs.YtffflhmblelegaaW.PrintMore Go.Proofs.Ytffflhmblelegaa.F Classical
theorem z105 {n : Int} (hn : n ≤ 8) (E : List T) (b : Int) : ∀ (d : Nat) (w : List Int), (onR n E b d w).length ≤ 8 ^ d := by
  intro d
  induction d with
  | zero => intro w; simp only [onR]; split <;> simp
  | succ d ih =>
    intro w
    simp only [onR]
    split
    · simp
    · have h1 := z45 (fun k => if k ∈ w then [] else onR n E b d (w ++ [k])) (8 ^ d) (nextL n E (rd w ((w.length : Int) - 1))) (fun k _ => by
        split
        · simp
        · exact ih _)
      have h2 : (nextL n E (rd w ((w.length : Int) - 1))).length ≤ 8 := by have := z53 n E (rd w ((w.length : Int) - 1)); omega
      have h3 : (nextL n E (rd w ((w.length : Int) - 1))).length * 8 ^ d ≤ 8 * 8 ^ d := Nat.mul_le_mul_right _ h2
      rw [Nat.pow_succ]
      omega
theorem ev_l2On {n : Int} {E : List T} {b : Int} (h : OK n E) {size : Nat} (hs : size ≤ 8) : ∀ (d : Nat) (w : List Int) (out : List (List Int)), w ≠ [] → w.length + d = size → out.length + 8 ^ d ≤ 1000000000 →
    Ev (fun k => spec_l2On.f k n E w b size out) (out ++ onR n E b d w) := by
  have hE := h.length
  have h8 := h.n8
  intro d
  induction d with
  | zero =>
    intro w out hw hd ho
    have hl : 0 < w.length := List.length_pos_iff.2 hw
    refine Ev.succ ?_
    simp only [spec_l2On.f, onR]
    rw [w64 (by omega)]
    refine Ev.pos (by omega) (Ev.pos (by omega) ?_)
    by_cases e : rd w ((w.length : Int) - 1) = b
    · rw [if_pos e]
      refine Ev.pos e (Ev.pos (by omega) (Ev.bind0 (a := []) rfl (Ev.pos (by simp; omega) (Ev.pos (by omega) (Ev.some_ (by simp))))))
    · rw [if_neg e, List.append_nil]
      exact Ev.neg e (Ev.pos (by omega) (Ev.now _))
  | succ d ih =>
    intro w out hw hd ho
    have hl : 0 < w.length := List.length_pos_iff.2 hw
    have hp : 8 ^ (d + 1) = 8 * 8 ^ d := by rw [Nat.pow_succ]; omega
    have hp1 : 1 ≤ 8 ^ d := Nat.pos_of_ne_zero (by simp)
    refine Ev.succ ?_
    simp only [spec_l2On.f, onR]
    rw [w64 (by omega)]
    refine Ev.pos (by omega) (Ev.pos (by omega) ?_)
    by_cases e : rd w ((w.length : Int) - 1) = b
    · rw [if_pos e, List.append_nil]
      exact Ev.pos e (Ev.neg (by omega) (Ev.now _))
    · rw [if_neg e]
      refine Ev.neg e (Ev.neg (by omega) (Ev.bind (z55 _ (by omega) h.n0 (by omega)) ?_))
      have hnl := z53 n E (rd w ((w.length : Int) - 1))
      generalize hL : nextL n E (rd w ((w.length : Int) - 1)) = L at hnl
      have hloop : ∀ (m j : Nat) (o : List (List Int)), j + m = L.length → o.length + m * 8 ^ d ≤ 1000000000 → Ev (fun k => spec_l2On.l0 k w b size o L j n E) (o ++ (L.drop j).flatMap (fun k => if k ∈ w then [] else onR n E b d (w ++ [k]))) := by
        intro m
        induction m with
        | zero =>
          intro j o hj _
          rw [List.drop_of_length_le (by omega), List.flatMap_nil, List.append_nil]
          refine Ev.succ ?_
          simp only [spec_l2On.l0]
          exact Ev.neg (by omega) (Ev.now _)
        | succ m ihm =>
          intro j o hj hb
          have hjl : j < L.length := by omega
          have hb' : o.length + (m * 8 ^ d + 8 ^ d) ≤ 1000000000 := by rw [Nat.succ_mul] at hb; exact hb
          rw [List.drop_eq_getElem_cons hjl, List.flatMap_cons]
          refine Ev.succ ?_
          simp only [spec_l2On.l0, z20 L j hjl]
          refine Ev.pos (by omega) (Ev.pos (by omega) (Ev.bind (ev_l2Has w L[j] (by omega)) ?_))
          rw [w64 (by omega)]
          by_cases hin : L[j] ∈ w
          · rw [if_pos hin, List.nil_append]
            have := ihm (j + 1) o (by omega) (by omega)
            exact Ev.pos (dec_t hin) (by exact_mod_cast this)
          · rw [if_neg hin]
            refine Ev.neg (by rw [dec_f hin]; simp) (Ev.bind0 (a := []) rfl (Ev.pos (by simp; omega) (Ev.bind0 (a := w) (by simp) (Ev.bind0 (a := [L[j]]) rfl (Ev.pos (by simp; omega) ?_)))))
            have hl1 := z105 (n := n) (by omega) E b d (w ++ [L[j]])
            refine Ev.bind (ih (w ++ [L[j]]) o (by simp) (by simp; omega) (by omega)) ?_
            have := ihm (j + 1) (o ++ onR n E b d (w ++ [L[j]])) (by omega) (by rw [List.length_append]; omega)
            rw [List.append_assoc] at this
            exact_mod_cast this
      have := hloop L.length 0 out (by omega) (by
        have : L.length * 8 ^ d ≤ 8 * 8 ^ d := Nat.mul_le_mul_right _ (by omega)
        omega)
      rw [List.drop_zero] at this
      exact_mod_cast this
theorem z106 {n : Int} {E : List T} {a b : Int} (h : OK n E) : ∀ (d i : Nat) (out : List (List Int)), i + d = n.toNat → out.length + d * 2097152 ≤ 100000000 →
    Ev (fun k => spec_WayAll.l0 k a b out ((i : Int) + 1) n E) (out ++ ((List.range n.toNat).drop i).flatMap (fun i => onR n E b i [a]))
  | 0, i, out, hd, _ => by
    have h0 := h.n0
    rw [List.drop_of_length_le (by rw [List.length_range]; omega), List.flatMap_nil, List.append_nil]
    refine Ev.succ ?_
    simp only [spec_WayAll.l0]
    exact Ev.neg (by omega) (Ev.now _)
  | d + 1, i, out, hd, ho => by
    have h0 := h.n0
    have h8 := h.n8
    have hi : i < (List.range n.toNat).length := by rw [List.length_range]; omega
    have hl := z105 h8 E b i [a]
    have hp : 8 ^ i ≤ 8 ^ 7 := Nat.pow_le_pow_right (by omega) (by omega)
    have hp7 : (8 : Nat) ^ 7 = 2097152 := by decide
    rw [List.drop_eq_getElem_cons hi, List.flatMap_cons, List.getElem_range]
    refine Ev.succ ?_
    simp only [spec_WayAll.l0]
    rw [w64 (by omega)]
    have key := ev_l2On (b := b) h (size := i + 1) (by omega) i [a] out (by simp) (by simp; omega) (by omega)
    refine Ev.pos (by omega) (Ev.bind (a := out ++ onR n E b i [a]) ?_ ?_)
    · exact_mod_cast key
    · have := z106 (a := a) (b := b) h d (i + 1) (out ++ onR n E b i [a]) (by omega) (by rw [List.length_append]; omega)
      rw [List.append_assoc] at this
      exact_mod_cast this
noncomputable def wayAll (n : Int) (E : List T) (a b : Int) : List (List Int) := if (OK n E ∧ In n a) ∧ (OK n E ∧ In n b) then allW n E a b else []
theorem z107 (n : Int) (E : List T) (a b : Int) : (wayAll n E a b).length ≤ 1000000000 ∧ ∀ w ∈ wayAll n E a b, w.length ≤ 8 := by
  unfold wayAll
  split
  · next h => exact allW_len h.1.1 h.1.2
  · simp
theorem z108 (n : Int) (E : List T) (a b : Int) (hE : E.length ≤ 1048576) (hw : WF E) : Ev (fun k => spec_WayAll.f k n E a b) (wayAll n E a b) := by
  simp only [spec_WayAll.f]
  refine Ev.bind0 (a := []) rfl (Ev.bind (z10 n E a hE hw) ?_)
  unfold wayAll
  by_cases h1 : OK n E ∧ In n a
  · refine Ev.pos (dec_t h1) (Ev.bind (z10 n E b hE hw) (Ev.succ ?_))
    simp only [spec_WayAll.j0]
    by_cases h2 : OK n E ∧ In n b
    · rw [dec_t h2, if_pos ⟨h1, h2⟩, ← z60 h1.1 h1.2]
      have h8 := h1.1.n8
      have := z106 (a := a) (b := b) h1.1 n.toNat 0 [] (by omega) (by simp; omega)
      rw [List.drop_zero, List.nil_append] at this
      exact Ev.neg (by simp) (by exact_mod_cast this)
    · rw [dec_f h2, if_neg (fun k => h2 k.2)]
      exact Ev.pos rfl (Ev.now _)
  · rw [if_neg (fun k => h1 k.1)]
    refine Ev.neg (by rw [dec_f h1]; simp) (Ev.succ ?_)
    simp only [spec_WayAll.j0]
    exact Ev.pos trivial (Ev.now _)
end Go.Proofs.Ytffflhmblelegaa.Th
namespace Go.Proofs.Ytffflhmblelegaa.Th
open Go.RowKit Go.Proofs.YtffflhmblelegaaW.PrintWords Go.Proofs.YtffflhmblelegaaW.PrintLast Go.Proofs.YtffflhmblelegaaW.PrintMore Go.Proofs.Ytffflhmblelegaa.F
theorem z109 (n : Int) (E : List T) (v : Int) (hE : E.length ≤ 1048576) : ∀ (d i : Nat) (out : List T), i + d = E.length → out.length ≤ i →
    Ev (fun k => spec_NetWithout.l0 k v i n E n out) (n, out ++ lessK (E.drop i) v)
  | 0, i, out, h, _ => by
    refine Ev.succ ?_
    simp only [spec_NetWithout.l0]
    refine Ev.neg (by omega) (Ev.some_ ?_)
    rw [List.drop_of_length_le (by omega)]
    simp [less]
  | d + 1, i, out, h, hl => by
    have hi : i < E.length := by omega
    refine Ev.succ ?_
    simp only [spec_NetWithout.l0, rd_T_nat E i hi]
    refine Ev.pos (by omega) (Ev.pos (by omega) ?_)
    rw [List.drop_eq_getElem_cons hi, w64 (by omega)]
    by_cases h0 : E[i].f0 = v
    · rw [lessK, z26 (Or.inl h0)]
      exact Ev.pos h0 (z109 n E v hE d (i + 1) out (by omega) (by omega))
    · refine Ev.neg h0 ?_
      by_cases h1 : E[i].f1 = v
      · rw [lessK, z26 (Or.inr h1)]
        exact Ev.pos h1 (z109 n E v hE d (i + 1) out (by omega) (by omega))
      · rw [lessK, z27 (not_or.2 ⟨h0, h1⟩)]
        refine Ev.neg h1 (Ev.pos (by omega) ?_)
        refine Ev.cast (z109 n E v hE d (i + 1) (out ++ [E[i]]) (by omega) (by simp only [List.length_append, List.length_singleton]; omega)) ?_
        simp
theorem z110 {n : Int} {E : List T} {v : Int} (h : OK n E) (hv : In n v) : Ev (fun k => spec_NetWithout.f k n E v) (n, lessK E v) := by
  have := h.length
  simp only [spec_NetWithout.f]
  refine Ev.bind (z10 n E v (by omega) h.wf) (Ev.pos (dec_t ⟨h, hv⟩) ?_)
  exact z109 n E v (by omega) E.length 0 [] (by omega) (by simp)
theorem z111 (n : Int) (E : List T) (a b : Int) (hE : E.length ≤ 1048576) : ∀ (d i : Nat) (out : List T), i + d = E.length → out.length ≤ i →
    Ev (fun k => spec_NetCut.l0 k a b i n E n out) (n, out ++ less (E.drop i) (· = tie a b), true)
  | 0, i, out, h, _ => by
    refine Ev.succ ?_
    simp only [spec_NetCut.l0]
    refine Ev.neg (by omega) (Ev.some_ ?_)
    rw [List.drop_of_length_le (by omega)]
    simp [less]
  | d + 1, i, out, h, hl => by
    have hi : i < E.length := by omega
    refine Ev.succ ?_
    simp only [spec_NetCut.l0, rd_T_nat E i hi]
    refine Ev.pos (by omega) (Ev.pos (by omega) (Ev.bind0 (l1Tie a b) ?_))
    rw [List.drop_eq_getElem_cons hi, w64 (by omega)]
    by_cases h0 : E[i] = tie a b
    · rw [z26 (p := fun x => x = tie a b) h0]
      exact Ev.neg (by rw [h0]; simp) (z111 n E a b hE d (i + 1) out (by omega) (by omega))
    · rw [z27 (p := fun x => x = tie a b) h0]
      refine Ev.pos ?_ (Ev.pos (by omega) ?_)
      · rw [← Bool.not_and, Bool.not_eq_true', ← Bool.not_eq_true]
        intro k
        simp only [Bool.and_eq_true, beq_iff_eq] at k
        exact h0 (T.ext k.1 k.2)
      · refine Ev.cast (z111 n E a b hE d (i + 1) (out ++ [E[i]]) (by omega) (by simp only [List.length_append, List.length_singleton]; omega)) ?_
        simp
theorem z112 {n : Int} {E : List T} {a b : Int} (h : OK n E) (hh : Has E a b) : Ev (fun k => spec_NetCut.f k n E a b) (n, less E (· = tie a b), true) := by
  have := h.length
  simp only [spec_NetCut.f]
  refine Ev.bind (z11 n E a b (by omega) h.wf) (Ev.pos (dec_t ⟨h, hh⟩) ?_)
  exact z111 n E a b (by omega) E.length 0 [] (by omega) (by simp)
end Go.Proofs.Ytffflhmblelegaa.Th
namespace Go.Proofs.Ytffflhmblelegaa.Th
open Go.RowKit Go.Proofs.YtffflhmblelegaaW.PrintWords Go.Proofs.YtffflhmblelegaaW.PrintLast Go.Proofs.YtffflhmblelegaaW.PrintMore Go.Proofs.Ytffflhmblelegaa.F Classical
theorem rdL_at (R : List (List Int)) (j : Nat) (hj : j < R.length) : rd_L2 R (j : Int) = R[j] := by
  unfold rd_L2
  rw [List.getD_eq_getElem?_getD, Int.toNat_natCast, List.getElem?_eq_getElem hj]
  rfl
theorem z113 {n : Int} {E : List T} {x : List Int} (h : OK n E) (hx : x.length ≤ 8) (hin : ∀ y ∈ x, In n y) : ∀ (d i : Nat), 1 ≤ i → i + 1 + d = x.length →
    Ev (fun k => spec_l13Rest.l0 k x i n (less E (fun t => ∃ k ∈ ((x.take i).drop 1), AtK k t))) (n, less E (fun t => ∃ k ∈ inner x, AtK k t))
  | 0, i, h1, hd => by
    refine Ev.succ ?_
    simp only [spec_l13Rest.l0]
    rw [w64 (by omega)]
    refine Ev.neg (by omega) (Ev.some_ ?_)
    have e : inner x = ((x.take i).drop 1) := by
      unfold inner
      rw [List.dropLast_eq_take, List.length_drop, List.drop_take, show x.length - 1 - 1 = i - 1 by omega]
    rw [e]
  | d + 1, i, h1, hd => by
    have hi : i < x.length := by omega
    have ih := z113 h hx hin d (i + 1) (by omega) (by omega)
    refine Ev.succ ?_
    simp only [spec_l13Rest.l0]
    rw [w64 (by omega), z20 x i hi]
    refine Ev.pos (by omega) (Ev.pos (by omega) (Ev.pos (by omega) (Ev.bind (z110 (h.less _) (hin _ (List.getElem_mem hi))) ?_)))
    have e : lessK (less E (fun t => ∃ k ∈ ((x.take i).drop 1), AtK k t)) x[i] = less E (fun t => ∃ k ∈ ((x.take (i + 1)).drop 1), AtK k t) := by
      show less (less E (fun t => ∃ k ∈ ((x.take i).drop 1), AtK k t)) (AtK x[i]) = _
      rw [z25]
      refine z23 (fun t _ => ?_)
      have e2 : (x.take (i + 1)).drop 1 = (x.take i).drop 1 ++ [x[i]] := by
        rw [← List.take_append_getElem hi, List.drop_append_of_le_length (by rw [List.length_take]; omega)]
      rw [e2]
      constructor
      · rintro (⟨k, hk, q⟩ | q)
        · exact ⟨k, List.mem_append.2 (Or.inl hk), q⟩
        · exact ⟨x[i], by simp, q⟩
      · rintro ⟨k, hk, q⟩
        rcases List.mem_append.1 hk with hk | hk
        · exact Or.inl ⟨k, hk, q⟩
        · rw [List.mem_singleton] at hk
          subst hk
          exact Or.inr q
    dsimp only
    rw [e]
    exact_mod_cast ih
theorem z114 {n : Int} {E : List T} {a b : Int} {x : List Int} (h : OK n E) (ha : In n a) (hab : a ≠ b) (p : Path E a b x) : Ev (fun k => spec_l13Rest.f k n E x) (n, restE E x) := by
  have hE := h.length
  have hx := p.len h ha
  simp only [spec_l13Rest.f]
  unfold restE
  by_cases h2 : x.length = 2
  · rw [if_pos h2]
    obtain rfl := (z70 p).1 h2
    refine Ev.pos (by omega) (Ev.pos (by simp) (Ev.pos (by simp) (Ev.bind (z112 (a := rd [a, b] 0) (b := rd [a, b] 1) h p.walk.1) (Ev.now _))))
  · rw [if_neg h2]
    have h3 : 2 ≤ x.length := by
      obtain ⟨r, rfl⟩ := p.cons_eq
      cases r with
      | nil => have := p.lst; simp at this; exact absurd this hab
      | cons c r => simp
    refine Ev.neg (by omega) (Ev.bind0 (l1Copy n E (by omega)) ?_)
    have := z113 h hx (fun y hy => p.inn h ha hy) (x.length - 2) 1 (by omega) (by omega)
    have e : less E (fun t => ∃ k ∈ ((x.take 1).drop 1), AtK k t) = E := z24 (fun t _ => by
      rintro ⟨k, hk, _⟩
      rw [List.drop_of_length_le (by rw [List.length_take]; omega)] at hk
      simp at hk)
    rw [e] at this
    exact_mod_cast this
theorem z115 {n : Int} {E : List T} {a b : Int} (h : OK n E) (ha : In n a) (hb : In n b) (hab : a ≠ b) : ∀ (d i : Nat), i + d = (allW n E a b).length →
    Ev (fun k => spec_TwoFind.l0 k a b [] (allW n E a b) i n E) (match ((allW n E a b).drop i).find? (fun x => dec (Conn (restE E x) a b)) with | some x => (x, firstW n (restE E x) a b, true) | none => ([], [], false))
  | 0, i, hd => by
    rw [List.drop_of_length_le (by omega)]
    refine Ev.succ ?_
    simp only [spec_TwoFind.l0]
    exact Ev.neg (by omega) (Ev.now _)
  | d + 1, i, hd => by
    have hi : i < (allW n E a b).length := by omega
    have ih := z115 h ha hb hab d (i + 1) (by omega)
    have p := (mem_allW h ha).1 (List.getElem_mem hi)
    have hlen := (allW_len (b := b) h ha).1
    have hr := h.rest (allW n E a b)[i]
    have hrl := hr.length
    rw [List.drop_eq_getElem_cons hi, List.find?_cons]
    refine Ev.succ ?_
    simp only [spec_TwoFind.l0]
    rw [rdL_at _ i hi]
    refine Ev.pos (by omega) (Ev.pos (by omega) (Ev.bind (z114 h ha hab p) (Ev.bind (z97 n (restE E (allW n E a b)[i]) a b (by omega) hr.wf) ?_)))
    by_cases hc : Conn (restE E (allW n E a b)[i]) a b
    · have e : wayFind n (restE E (allW n E a b)[i]) a b = (firstW n (restE E (allW n E a b)[i]) a b, true) := by unfold wayFind; rw [if_pos ⟨⟨hr, ha⟩, ⟨hr, hb⟩, hc⟩]
      rw [e, dec_t hc]
      exact Ev.pos rfl (Ev.now _)
    · have e : wayFind n (restE E (allW n E a b)[i]) a b = ([], false) := by unfold wayFind; rw [if_neg (fun k => hc k.2.2)]
      rw [e, dec_f hc, w64 (by omega)]
      exact Ev.neg (by simp) (by exact_mod_cast ih)
theorem z116 (n : Int) (E : List T) (a b : Int) (hE : E.length ≤ 1048576) (hw : WF E) : Ev (fun k => spec_TwoFind.f k n E a b) (twoFind n E a b) := by
  simp only [spec_TwoFind.f]
  have hno : ¬ (OK n E ∧ In n a ∧ In n b ∧ a ≠ b) → Ev (fun k => spec_TwoFind.j0 k a b [] true n E) (twoFind n E a b) := fun h => by
    rw [z75 h]
    refine Ev.succ ?_
    simp only [spec_TwoFind.j0]
    exact Ev.pos trivial (Ev.now _)
  refine Ev.bind0 (a := []) rfl (Ev.bind (z10 n E a hE hw) ?_)
  by_cases h1 : OK n E ∧ In n a
  · refine Ev.pos (dec_t h1) (Ev.bind (z10 n E b hE hw) ?_)
    by_cases h2 : OK n E ∧ In n b
    · refine Ev.pos (dec_t h2) ?_
      by_cases hab : a = b
      · rw [show (a == b) = true from beq_iff_eq.2 hab]
        exact hno (fun k => k.2.2.2 hab)
      · rw [show (a == b) = false from beq_eq_false_iff_ne.2 hab]
        refine Ev.succ ?_
        simp only [spec_TwoFind.j0]
        have e : wayAll n E a b = allW n E a b := by unfold wayAll; rw [if_pos ⟨h1, h2⟩]
        refine Ev.neg (by simp) (Ev.bind (z108 n E a b hE hw) ?_)
        rw [e]
        have := z115 h1.1 h1.2 h2.2 hab (allW n E a b).length 0 (by omega)
        rw [List.drop_zero] at this
        unfold twoFind
        rw [if_pos ⟨h1.1, h1.2, h2.2, hab⟩]
        exact this
    · exact Ev.neg (by rw [dec_f h2]; simp) (hno (fun k => h2 ⟨k.1, k.2.2.1⟩))
  · exact Ev.neg (by rw [dec_f h1]; simp) (hno (fun k => h1 ⟨k.1, k.2.1⟩))
end Go.Proofs.Ytffflhmblelegaa.Th
namespace Go.Proofs.Ytffflhmblelegaa.Th
open Go.RowKit Go.Proofs.YtffflhmblelegaaW.PrintWords Go.Proofs.YtffflhmblelegaaW.PrintLast Go.Proofs.YtffflhmblelegaaW.PrintMore Go.Proofs.Ytffflhmblelegaa.F
theorem z117 {s : List Int} (h : Bytes s) : ∀ (d : Nat) (i p n : Int) (E : List T), i ≤ d → d ≤ 20 → 0 ≤ p → p + 2 * d ≤ 90000 → OK n E → ∃ n' E' p', Ev (fun k => spec_l71Ring.l2 k i s p n E) (n', E', p') ∧ Small n' E' ∧ 0 ≤ p' ∧ p' ≤ p + 2 * d + 62 := by
  intro d
  induction d with
  | zero =>
    intro i p n E hi _ hp hq ho
    obtain ⟨v, hv, _⟩ := ev_pick h (p := p) ⟨hp, by omega⟩ 8 (by omega)
    by_cases e : v = 0
    · obtain ⟨n2, E2, p2, h2, hn, hp2, hq2⟩ := z88 h (p + 1) (by omega) (by omega)
      refine ⟨n2, E2, p2, Ev.succ ?_, hn, hp2, by omega⟩
      simp only [spec_l71Ring.l2]
      exact Ev.neg (by omega) (Ev.bind hv (Ev.pos e (Ev.bind h2 (Ev.now _))))
    · refine ⟨n, E, p + 1, Ev.succ ?_, ho.small, by omega, by omega⟩
      simp only [spec_l71Ring.l2]
      exact Ev.neg (by omega) (Ev.bind hv (Ev.neg e (Ev.now _)))
  | succ d ih =>
    intro i p n E hi hd hp hq ho
    by_cases hi0 : i > 0
    · have h8 := ho.n8
      obtain ⟨v, hv, _⟩ := ev_pick h (p := p) ⟨hp, by omega⟩ n (by omega)
      obtain ⟨u, hu, _⟩ := ev_pick h (p := p + 1) ⟨by omega, by omega⟩ n (by omega)
      obtain ⟨n2, E2, ok, hadd, ho2⟩ := z81 ho v u
      by_cases e : ok = true
      · obtain ⟨n3, E3, p3, h3, hn, hp3, hq3⟩ := ih (i - 1) (p + 1 + 1) n2 E2 (by omega) (by omega) (by omega) (by omega) ho2
        refine ⟨n3, E3, p3, Ev.succ ?_, hn, hp3, by omega⟩
        simp only [spec_l71Ring.l2]
        refine Ev.pos hi0 (Ev.bind hv (Ev.bind hu (Ev.bind hadd (Ev.pos e ?_))))
        rw [w64 (by omega)]
        exact h3
      · obtain ⟨n3, E3, p3, h3, hn, hp3, hq3⟩ := ih (i - 1) (p + 1 + 1) n E (by omega) (by omega) (by omega) (by omega) ho
        refine ⟨n3, E3, p3, Ev.succ ?_, hn, hp3, by omega⟩
        simp only [spec_l71Ring.l2]
        refine Ev.pos hi0 (Ev.bind hv (Ev.bind hu (Ev.bind hadd (Ev.neg e ?_))))
        rw [w64 (by omega)]
        exact h3
    · obtain ⟨v, hv, _⟩ := ev_pick h (p := p) ⟨hp, by omega⟩ 8 (by omega)
      by_cases e : v = 0
      · obtain ⟨n2, E2, p2, h2, hn, hp2, hq2⟩ := z88 h (p + 1) (by omega) (by omega)
        refine ⟨n2, E2, p2, Ev.succ ?_, hn, hp2, by omega⟩
        simp only [spec_l71Ring.l2]
        exact Ev.neg (by omega) (Ev.bind hv (Ev.pos e (Ev.bind h2 (Ev.now _))))
      · refine ⟨n, E, p + 1, Ev.succ ?_, ho.small, by omega, by omega⟩
        simp only [spec_l71Ring.l2]
        exact Ev.neg (by omega) (Ev.bind hv (Ev.neg e (Ev.now _)))
theorem z118 {s : List Int} (h : Bytes s) : ∀ (d : Nat) (i p n : Int) (E : List T), i + d = 9 → 3 ≤ i → 0 ≤ p → p + 2 * d ≤ 80000 → OK n E → ∃ n' E' p', Ev (fun k => spec_l71Ring.l1 k i s p n E) (n', E', p') ∧ Small n' E' ∧ 0 ≤ p' ∧ p' ≤ p + 2 * d + 80 := by
  intro d
  induction d with
  | zero =>
    intro i p n E hi h3 hp hq ho
    have h8 := ho.n8
    obtain ⟨v, hv, hv1, _⟩ := ev_pick h (p := p) ⟨hp, by omega⟩ 5 (by omega)
    obtain ⟨n2, E2, p2, h2, hn, hp2, hq2⟩ := z117 h 5 v (p + 1) n E (by have := hv1 (by omega); omega) (by omega) (by omega) (by omega) ho
    refine ⟨n2, E2, p2, Ev.succ ?_, hn, hp2, by omega⟩
    simp only [spec_l71Ring.l1]
    exact Ev.neg (by omega) (Ev.bind hv h2)
  | succ d ih =>
    intro i p n E hi h3 hp hq ho
    have h8 := ho.n8
    by_cases hin : i < n
    · obtain ⟨v, hv, _⟩ := ev_pick h (p := p) ⟨hp, by omega⟩ i (by omega)
      obtain ⟨n2, E2, ok, hadd, ho2⟩ := z81 ho i v
      obtain ⟨u, hu, _⟩ := ev_pick h (p := p + 1) ⟨by omega, by omega⟩ (i - 1) (by omega)
      obtain ⟨n3, E3, ok3, hadd3, ho3⟩ := z81 ho2 i (Int.tmod (wrap64 ((wrap64 (v + 1)) + u)) i)
      obtain ⟨n4, E4, p4, h4, hn, hp4, hq4⟩ := ih (i + 1) (p + 1 + 1) n3 E3 (by omega) (by omega) (by omega) (by omega) ho3
      refine ⟨n4, E4, p4, Ev.succ ?_, hn, hp4, by omega⟩
      simp only [spec_l71Ring.l1]
      rw [w64 (x := i - 1) (by omega), w64 (x := i + 1) (by omega)]
      exact Ev.pos hin (Ev.bind hv (Ev.bind hadd (Ev.bind hu (Ev.neg (by omega) (Ev.bind hadd3 h4)))))
    · obtain ⟨v, hv, hv1, _⟩ := ev_pick h (p := p) ⟨hp, by omega⟩ 5 (by omega)
      obtain ⟨n2, E2, p2, h2, hn, hp2, hq2⟩ := z117 h 5 v (p + 1) n E (by have := hv1 (by omega); omega) (by omega) (by omega) (by omega) ho
      refine ⟨n2, E2, p2, Ev.succ ?_, hn, hp2, by omega⟩
      simp only [spec_l71Ring.l1]
      exact Ev.neg hin (Ev.bind hv h2)
theorem z119 {s : List Int} (h : Bytes s) (m p : Int) (hm : 3 ≤ m ∧ m ≤ 8) (hp : 0 ≤ p) (hq : p ≤ 70000) : ∀ (d : Nat) (i n : Int) (E : List T), i + d = m → 0 ≤ i → OK n E → ∃ n' E' p', Ev (fun k => spec_l71Ring.l0 k m i s p n E) (n', E', p') ∧ Small n' E' ∧ 0 ≤ p' ∧ p' ≤ p + 100 := by
  intro d
  induction d with
  | zero =>
    intro i n E hi h0 ho
    obtain ⟨n2, E2, p2, h2, hn, hp2, hq2⟩ := z118 h (9 - m).toNat m p n E (by omega) (by omega) hp (by omega) ho
    refine ⟨n2, E2, p2, Ev.succ ?_, hn, hp2, by omega⟩
    simp only [spec_l71Ring.l0]
    exact Ev.neg (by omega) h2
  | succ d ih =>
    intro i n E hi h0 ho
    obtain ⟨n2, E2, ok, hadd, ho2⟩ := z81 ho i (Int.tmod (wrap64 (i + 1)) m)
    obtain ⟨n3, E3, p3, h3, hn, hp3, hq3⟩ := ih (i + 1) n2 E2 (by omega) (by omega) ho2
    refine ⟨n3, E3, p3, Ev.succ ?_, hn, hp3, hq3⟩
    simp only [spec_l71Ring.l0]
    refine Ev.pos (by omega) (Ev.neg (by omega) (Ev.bind hadd ?_))
    rw [w64 (by omega)]
    exact h3
theorem z120 {s : List Int} (h : Bytes s) (p : Int) (hp : 0 ≤ p) (hq : p ≤ 60000) : ∃ n E p', Ev (fun k => spec_l71Ring.f k s p) (n, E, p') ∧ Small n E ∧ 0 ≤ p' ∧ p' ≤ p + 110 := by
  obtain ⟨v, hv, hv1, _⟩ := ev_pick h (p := p) ⟨hp, by omega⟩ 6 (by omega)
  have hv2 := hv1 (by omega)
  obtain ⟨u, hu, hu1, _⟩ := ev_pick h (p := p + 1) ⟨by omega, by omega⟩ (3 + v - 2) (by omega)
  have hu2 := hu1 (by omega)
  obtain ⟨n, E, p2, h2, hn, hp2, hq2⟩ := z119 h (3 + u) (p + 1 + 1) (by omega) (by omega) (by omega) (3 + u).toNat 0 (3 + v) [] (by omega) (by omega) (OK.nil (by omega) (by omega))
  refine ⟨n, E, p2, ?_, hn, hp2, by omega⟩
  simp only [spec_l71Ring.f]
  refine Ev.bind hv ?_
  dsimp only
  rw [w64 (x := 3 + v) (by omega), w64 (x := 3 + v - 2) (by omega)]
  refine Ev.bind hu ?_
  dsimp only
  rw [w64 (x := 3 + u) (by omega)]
  exact h2
theorem z121 {s : List Int} (h : Bytes s) : ∀ (d : Nat) (i p : Int), i + d = 8 → 0 ≤ i → 0 ≤ p → p + 200 * d ≤ 50000 → ∃ n E a b p', Ev (fun k => spec_l71Apart.l0 k i s p) (n, E, a, b, p') ∧ Small n E ∧ (-9 ≤ a ∧ a ≤ 9) ∧ (-9 ≤ b ∧ b ≤ 9) ∧ 0 ≤ p' ∧ p' ≤ p + 200 * d + 80 := by
  have hend : ∀ (i p : Int), 0 ≤ p → p ≤ 50000 → ∃ n E a b p', Ev (fun k => spec_l71Apart.j1 k i false s p) (n, E, a, b, p') ∧ Small n E ∧ (-9 ≤ a ∧ a ≤ 9) ∧ (-9 ≤ b ∧ b ≤ 9) ∧ 0 ≤ p' ∧ p' ≤ p + 70 := fun i p hp hq => by
    obtain ⟨n, E, a, b, p1, h1, hn, ha, hb, hp1, hq1⟩ := z90 h p hp (by omega)
    refine ⟨n, E, a, b, p1, Ev.succ ?_, hn, ha, hb, hp1, hq1⟩
    simp only [spec_l71Apart.j1]
    exact Ev.neg (by simp) (Ev.bind h1 (Ev.now _))
  intro d
  induction d with
  | zero =>
    intro i p hi h0 hp hq
    obtain ⟨n, E, a, b, p1, h1, hn, ha, hb, hp1, hq1⟩ := hend i p hp (by omega)
    refine ⟨n, E, a, b, p1, Ev.succ ?_, hn, ha, hb, hp1, by omega⟩
    simp only [spec_l71Apart.l0]
    exact Ev.neg (by omega) h1
  | succ d ih =>
    intro i p hi h0 hp hq
    obtain ⟨v, hv, _⟩ := ev_pick h (p := p) ⟨hp, by omega⟩ 6 (by omega)
    by_cases e : v > 0
    · obtain ⟨n, E, p1, h1, hn, hp1, hq1⟩ := z120 h (p + 1) (by omega) (by omega)
      obtain ⟨a, p2, h2, ha, hp2, hq2⟩ := z89 h p1 hp1 (by omega) hn
      obtain ⟨b, p3, h3, hb, hp3, hq3⟩ := z89 h p2 hp2 (by omega) hn
      by_cases ok : (twoFind n E a b).2.2 = true
      · refine ⟨n, E, a, b, p3, Ev.succ ?_, hn, ha, hb, hp3, by omega⟩
        simp only [spec_l71Apart.l0]
        refine Ev.pos (by omega) (Ev.bind hv (Ev.succ ?_))
        simp only [spec_l71Apart.j1]
        exact Ev.pos (decide_eq_true e) (Ev.bind h1 (Ev.bind h2 (Ev.bind h3 (Ev.bind (z116 n E a b hn.le hn.wf) (Ev.pos ok (Ev.now _))))))
      · obtain ⟨n2, E2, a2, b2, p4, h4, hn2, ha2, hb2, hp4, hq4⟩ := ih (i + 1) p3 (by omega) (by omega) hp3 (by omega)
        refine ⟨n2, E2, a2, b2, p4, Ev.succ ?_, hn2, ha2, hb2, hp4, by omega⟩
        simp only [spec_l71Apart.l0]
        refine Ev.pos (by omega) (Ev.bind hv (Ev.succ ?_))
        simp only [spec_l71Apart.j1]
        refine Ev.pos (decide_eq_true e) (Ev.bind h1 (Ev.bind h2 (Ev.bind h3 (Ev.bind (z116 n E a b hn.le hn.wf) (Ev.neg ok ?_)))))
        rw [w64 (by omega)]
        exact h4
    · obtain ⟨n, E, a, b, p1, h1, hn, ha, hb, hp1, hq1⟩ := hend i (p + 1) (by omega) (by omega)
      refine ⟨n, E, a, b, p1, Ev.succ ?_, hn, ha, hb, hp1, by omega⟩
      simp only [spec_l71Apart.l0]
      refine Ev.pos (by omega) (Ev.bind hv ?_)
      dsimp only
      rw [decide_eq_false e]
      exact h1
theorem z122 {s : List Int} (h : Bytes s) (p : Int) (hp : 0 ≤ p) (hq : p ≤ 40000) : ∃ n E a b p', Ev (fun k => spec_l71Apart.f k s p) (n, E, a, b, p') ∧ Small n E ∧ (-9 ≤ a ∧ a ≤ 9) ∧ (-9 ≤ b ∧ b ≤ 9) ∧ 0 ≤ p' ∧ p' ≤ p + 1700 := by
  obtain ⟨n, E, a, b, p1, h1, hn, ha, hb, hp1, hq1⟩ := z121 h 8 0 p (by omega) (by omega) hp (by omega)
  exact ⟨n, E, a, b, p1, by simp only [spec_l71Apart.f]; exact h1, hn, ha, hb, hp1, by omega⟩
theorem z123 {s : List Int} (h : Bytes s) (w : List Int) (hw : 0 < w.length ∧ w.length ≤ 20) (p : Int) (hp : 0 ≤ p) (hq : p ≤ 60000) : ∃ w' p', Ev (fun k => spec_l71Walk.j2 k w s p) (w', p') ∧ w'.length ≤ 20 ∧ 0 ≤ p' ∧ p' ≤ p + 3 := by
  obtain ⟨v, hv, _⟩ := ev_pick h (p := p) ⟨hp, by omega⟩ 16 (by omega)
  by_cases e : v = 0
  · obtain ⟨u, hu, hu1, _⟩ := ev_pick h (p := p + 1) ⟨by omega, by omega⟩ (w.length : Int) (by omega)
    obtain ⟨z, hz, _⟩ := ev_pick h (p := p + 1 + 1) ⟨by omega, by omega⟩ 9 (by omega)
    have hu2 := hu1 (by omega)
    refine ⟨w.set u.toNat z, p + 1 + 1 + 1, Ev.succ ?_, by rw [List.length_set]; omega, by omega, by omega⟩
    simp only [spec_l71Walk.j2]
    exact Ev.bind hv (Ev.pos e (Ev.bind hu (Ev.bind hz (Ev.pos hu2.1 (Ev.pos hu2.2 (Ev.now _))))))
  · by_cases e1 : v = 1
    · refine ⟨[], p + 1, Ev.succ ?_, by simp, by omega, by omega⟩
      simp only [spec_l71Walk.j2]
      exact Ev.bind hv (Ev.neg e (Ev.pos e1 (Ev.now _)))
    · refine ⟨w, p + 1, Ev.succ ?_, by omega, by omega, by omega⟩
      simp only [spec_l71Walk.j2]
      exact Ev.bind hv (Ev.neg e (Ev.neg e1 (Ev.now _)))
theorem z124 {s : List Int} (h : Bytes s) {n : Int} {E : List T} (hs : Small n E) : ∀ (d : Nat) (i : Int) (w : List Int) (p : Int), i ≤ d → 0 < w.length → w.length + d ≤ 20 → 0 ≤ p → p + 3 * d ≤ 50000 → ∃ w' p', Ev (fun k => spec_l71Walk.l0 k w i s p n E) (w', p') ∧ w'.length ≤ 20 ∧ 0 ≤ p' ∧ p' ≤ p + 3 * d + 3 := by
  intro d
  induction d with
  | zero =>
    intro i w p hi hw hl hp hq
    obtain ⟨w2, p2, h2, hw2, hp2, hq2⟩ := z123 h w ⟨hw, by omega⟩ p hp (by omega)
    refine ⟨w2, p2, Ev.succ ?_, hw2, hp2, by omega⟩
    simp only [spec_l71Walk.l0]
    exact Ev.neg (by omega) h2
  | succ d ih =>
    intro i w p hi hw hl hp hq
    by_cases hi0 : i > 0
    · have hj1 : ∀ (L : List Int), L.length ≤ 100 → ∃ w' p', Ev (fun k => spec_l71Walk.j1 k w i L s p n E) (w', p') ∧ w'.length ≤ 20 ∧ 0 ≤ p' ∧ p' ≤ p + 3 * ((d + 1 : Nat) : Int) + 3 := fun L hL => by
        by_cases hL0 : (L.length : Int) = 0
        · obtain ⟨w2, p2, h2, hw2, hp2, hq2⟩ := z123 h w ⟨hw, by omega⟩ p hp (by omega)
          refine ⟨w2, p2, Ev.succ ?_, hw2, hp2, by omega⟩
          simp only [spec_l71Walk.j1]
          exact Ev.pos hL0 h2
        · obtain ⟨v, hv, hv1, _⟩ := ev_pick h (p := p) ⟨hp, by omega⟩ (L.length : Int) (by omega)
          have hv2 := hv1 (by omega)
          by_cases hin : rd L v ∈ w
          · obtain ⟨u, hu, _⟩ := ev_pick h (p := p + 1) ⟨by omega, by omega⟩ 6 (by omega)
            by_cases hu0 : u > 0
            · obtain ⟨w2, p2, h2, hw2, hp2, hq2⟩ := ih (i - 1) w (p + 1 + 1) (by omega) hw (by omega) (by omega) (by omega)
              refine ⟨w2, p2, Ev.succ ?_, hw2, hp2, by omega⟩
              simp only [spec_l71Walk.j1]
              refine Ev.neg hL0 (Ev.bind hv (Ev.pos hv2.1 (Ev.pos hv2.2 (Ev.bind (ev_l2Has w (rd L v) (by omega)) (Ev.pos (dec_t hin) (Ev.bind hu (Ev.pos hu0 ?_)))))))
              rw [w64 (by omega)]
              exact h2
            · obtain ⟨w2, p2, h2, hw2, hp2, hq2⟩ := ih (i - 1) (w ++ [rd L v]) (p + 1 + 1) (by omega) (by simp) (by simp; omega) (by omega) (by omega)
              refine ⟨w2, p2, Ev.succ ?_, hw2, hp2, by omega⟩
              simp only [spec_l71Walk.j1]
              refine Ev.neg hL0 (Ev.bind hv (Ev.pos hv2.1 (Ev.pos hv2.2 (Ev.bind (ev_l2Has w (rd L v) (by omega)) (Ev.pos (dec_t hin) (Ev.bind hu (Ev.neg hu0 (Ev.pos (by omega) ?_))))))))
              rw [w64 (by omega)]
              exact h2
          · obtain ⟨w2, p2, h2, hw2, hp2, hq2⟩ := ih (i - 1) (w ++ [rd L v]) (p + 1) (by omega) (by simp) (by simp; omega) (by omega) (by omega)
            refine ⟨w2, p2, Ev.succ ?_, hw2, hp2, by omega⟩
            simp only [spec_l71Walk.j1]
            refine Ev.neg hL0 (Ev.bind hv (Ev.pos hv2.1 (Ev.pos hv2.2 (Ev.bind (ev_l2Has w (rd L v) (by omega)) (Ev.neg (by rw [dec_f hin]; simp) (Ev.pos (by omega) ?_))))))
            rw [w64 (by omega)]
            exact h2
      by_cases hk : OK n E ∧ In n (rd w ((w.length : Int) - 1))
      · have h8 := hk.1.n8
        have hnl := z53 n E (rd w ((w.length : Int) - 1))
        obtain ⟨w2, p2, h2, hw2, hp2, hq2⟩ := hj1 (nextL n E (rd w ((w.length : Int) - 1))) (by omega)
        refine ⟨w2, p2, Ev.succ ?_, hw2, hp2, hq2⟩
        simp only [spec_l71Walk.l0]
        rw [w64 (by omega)]
        exact Ev.pos hi0 (Ev.pos (by omega) (Ev.pos (by omega) (Ev.bind (z10 n E _ hs.le hs.wf) (Ev.pos (dec_t hk) (Ev.bind (z55 _ hs.le hk.1.n0 (by omega)) h2)))))
      · obtain ⟨w2, p2, h2, hw2, hp2, hq2⟩ := hj1 [] (by simp)
        refine ⟨w2, p2, Ev.succ ?_, hw2, hp2, hq2⟩
        simp only [spec_l71Walk.l0]
        rw [w64 (by omega)]
        exact Ev.pos hi0 (Ev.pos (by omega) (Ev.pos (by omega) (Ev.bind (z10 n E _ hs.le hs.wf) (Ev.neg (by rw [dec_f hk]; simp) h2))))
    · obtain ⟨w2, p2, h2, hw2, hp2, hq2⟩ := z123 h w ⟨hw, by omega⟩ p hp (by omega)
      refine ⟨w2, p2, Ev.succ ?_, hw2, hp2, by omega⟩
      simp only [spec_l71Walk.l0]
      exact Ev.neg hi0 h2
theorem z125 {s : List Int} (h : Bytes s) {n : Int} {E : List T} (hs : Small n E) (p : Int) (hp : 0 ≤ p) (hq : p ≤ 40000) : ∃ w p', Ev (fun k => spec_l71Walk.f k s p n E) (w, p') ∧ w.length ≤ 20 ∧ 0 ≤ p' ∧ p' ≤ p + 30 := by
  obtain ⟨a, p1, h1, _, hp1, hq1⟩ := z89 h p hp (by omega) hs
  obtain ⟨v, hv, hv1, _⟩ := ev_pick h (p := p1) ⟨hp1, by omega⟩ 7 (by omega)
  have hv2 := hv1 (by omega)
  obtain ⟨w, p2, h2, hw, hp2, hq2⟩ := z124 h hs 7 v [a] (p1 + 1) (by omega) (by simp) (by simp) (by omega) (by omega)
  refine ⟨w, p2, ?_, hw, hp2, by omega⟩
  simp only [spec_l71Walk.f]
  exact Ev.bind h1 (Ev.bind hv h2)
theorem z126 (n : Int) (E : List T) (a b : Int) : (twoFind n E a b).1.length ≤ 8 ∧ (twoFind n E a b).2.1.length ≤ 8 := by
  by_cases h : OK n E ∧ In n a ∧ In n b ∧ a ≠ b
  · cases hx : (allW n E a b).find? (fun x => dec (Conn (restE E x) a b)) with
    | none => rw [z74 hx]; simp
    | some x =>
      obtain ⟨e, p, q, _⟩ := z73 h.1 h.2.1 h.2.2.1 h.2.2.2 hx
      rw [e]
      exact ⟨p.len h.1 h.2.1, q.len h.1 h.2.1⟩
  · rw [z75 h]; simp
theorem z127 (l : List Int) (hl : l.length ≤ maxLen ∧ ∀ x ∈ l, (Lit.int .u8 x).wf = true) : ∃ n E a b x y, Ev (fun k => spec_DrawTwoOk.f k l) (n, E, a, b, x, y) ∧ Small n E ∧ x.length ≤ 20 ∧ y.length ≤ 20 := by
  obtain ⟨s, ho, hs⟩ := l6Open l hl
  obtain ⟨n, E, a, b, p, h1, hn, _, _, hp, hq⟩ := z122 hs 0 (by omega) (by omega)
  obtain ⟨l1, l2⟩ := z126 n E a b
  obtain ⟨w1, w2⟩ := z107 n E a b
  have hj0 : ∀ (p : Int), 0 ≤ p → p ≤ 30000 → ∃ x y, Ev (fun k => spec_DrawTwoOk.j0 k a b (twoFind n E a b).1 (twoFind n E a b).2.1 (wayAll n E a b) false s p n E) (n, E, a, b, x, y) ∧ x.length ≤ 20 ∧ y.length ≤ 20 := fun p hp hq => by
    by_cases hW : ((wayAll n E a b).length : Int) > 0
    · obtain ⟨v, hv, hv1, _⟩ := ev_pick hs (p := p) ⟨hp, by omega⟩ ((wayAll n E a b).length : Int) (by omega)
      obtain ⟨u, hu, hu1, _⟩ := ev_pick hs (p := p + 1) ⟨by omega, by omega⟩ ((wayAll n E a b).length : Int) (by omega)
      have hv2 := hv1 (by omega)
      have hu2 := hu1 (by omega)
      have hlen : ∀ j : Int, 0 ≤ j → j < (wayAll n E a b).length → (rd_L2 (wayAll n E a b) j).length ≤ 20 := fun j h0 hj => by
        obtain ⟨i, rfl⟩ : ∃ i : Nat, j = i := ⟨j.toNat, by omega⟩
        rw [rdL_at _ i (by omega)]
        have := w2 _ (List.getElem_mem (show i < (wayAll n E a b).length by omega))
        omega
      refine ⟨_, _, Ev.succ ?_, hlen v hv2.1 hv2.2, hlen u hu2.1 hu2.2⟩
      simp only [spec_DrawTwoOk.j0]
      exact Ev.neg (by simp) (Ev.pos hW (Ev.bind hv (Ev.pos hv2.1 (Ev.pos hv2.2 (Ev.bind hu (Ev.pos hu2.1 (Ev.pos hu2.2 (Ev.now _))))))))
    · obtain ⟨x, p1, h1, hx, hp1, hq1⟩ := z125 hs hn p hp (by omega)
      obtain ⟨y, p2, h2, hy, _, _⟩ := z125 hs hn p1 hp1 (by omega)
      refine ⟨x, y, Ev.succ ?_, hx, hy⟩
      simp only [spec_DrawTwoOk.j0]
      exact Ev.neg (by simp) (Ev.neg hW (Ev.bind h1 (Ev.bind h2 (Ev.now _))))
  have hall : ∃ x y, Ev (fun k => if (twoFind n E a b).2.2 = true then ((spec_l6Rd_pick.f k s p 3).bind fun bt => (spec_DrawTwoOk.j0 k a b (twoFind n E a b).1 (twoFind n E a b).2.1 (wayAll n E a b) (decide (bt.1 > 0)) s bt.2 n E)) else (spec_DrawTwoOk.j0 k a b (twoFind n E a b).1 (twoFind n E a b).2.1 (wayAll n E a b) false s p n E)) (n, E, a, b, x, y) ∧ x.length ≤ 20 ∧ y.length ≤ 20 := by
    by_cases ok : (twoFind n E a b).2.2 = true
    · obtain ⟨v, hv, _⟩ := ev_pick hs (p := p) ⟨hp, by omega⟩ 3 (by omega)
      by_cases e : v > 0
      · obtain ⟨u, hu, _⟩ := ev_pick hs (p := p + 1) ⟨by omega, by omega⟩ 2 (by omega)
        by_cases eu : u = 0
        · refine ⟨(twoFind n E a b).2.1, (twoFind n E a b).1, Ev.pos ok (Ev.bind hv (Ev.succ ?_)), by omega, by omega⟩
          simp only [spec_DrawTwoOk.j0]
          exact Ev.pos (decide_eq_true e) (Ev.bind hu (Ev.pos eu (Ev.now _)))
        · refine ⟨(twoFind n E a b).1, (twoFind n E a b).2.1, Ev.pos ok (Ev.bind hv (Ev.succ ?_)), by omega, by omega⟩
          simp only [spec_DrawTwoOk.j0]
          exact Ev.pos (decide_eq_true e) (Ev.bind hu (Ev.neg eu (Ev.now _)))
      · obtain ⟨x, y, h2, hx, hy⟩ := hj0 (p + 1) (by omega) (by omega)
        refine ⟨x, y, Ev.pos ok (Ev.bind hv ?_), hx, hy⟩
        dsimp only
        rw [decide_eq_false e]
        exact h2
    · obtain ⟨x, y, h2, hx, hy⟩ := hj0 p hp (by omega)
      exact ⟨x, y, Ev.neg ok h2, hx, hy⟩
  obtain ⟨x, y, h2, hx, hy⟩ := hall
  refine ⟨n, E, a, b, x, y, ?_, hn, hx, hy⟩
  simp only [spec_DrawTwoOk.f]
  exact Ev.bind0 ho (Ev.bind h1 (Ev.bind (z116 n E a b hn.le hn.wf) (Ev.bind (z108 n E a b hn.le hn.wf) h2)))
end Go.Proofs.Ytffflhmblelegaa.Th
namespace Go.Proofs.Ytffflhmblelegaa.Th
open Go.RowKit Go.Proofs.YtffflhmblelegaaW.PrintWords Go.Proofs.YtffflhmblelegaaW.PrintLast Go.Proofs.YtffflhmblelegaaW.PrintMore Go.Proofs.Ytffflhmblelegaa.F Classical
theorem Path.two {E : List T} {a b : Int} (hab : a ≠ b) {w : List Int} (p : Path E a b w) : 2 ≤ w.length := by
  obtain ⟨r, rfl⟩ := p.cons_eq
  cases r with
  | nil => have := p.lst; simp at this; exact absurd this hab
  | cons c r => simp
noncomputable def blockL (E : List T) (t : T) : List T := E.filter (fun s => dec (Bl E t s))
theorem z128 {E : List T} {s t : T} : s ∈ blockL E t ↔ s ∈ E ∧ Bl E t s := by
  unfold blockL
  rw [List.mem_filter, dec_iff]
theorem z129 (E : List T) (t : T) : (blockL E t).Sublist E := List.filter_sublist
theorem z130 (E : List T) (t : T) : (blockL E t).length ≤ E.length := (z129 E t).length_le
end Go.Proofs.Ytffflhmblelegaa.Th
namespace Go.Proofs.Ytffflhmblelegaa.Th
open Go.RowKit Go.Proofs.YtffflhmblelegaaW.PrintWords Go.Proofs.YtffflhmblelegaaW.PrintLast Go.Proofs.YtffflhmblelegaaW.PrintMore Go.Proofs.Ytffflhmblelegaa.F
theorem z131 (n : Int) (E gone : List T) (hE : E.length ≤ 1048576) (hg : gone.length ≤ 1048576) : ∀ (d i : Nat) (out : List T), i + d = E.length → out.length ≤ i →
    Ev (fun k => impl_Net_less.l0 k gone E E.length i n out) (n, out ++ less (E.drop i) (· ∈ gone))
  | 0, i, out, h, _ => by
    refine Ev.succ ?_
    simp only [impl_Net_less.l0]
    refine Ev.neg (by omega) (Ev.some_ ?_)
    rw [List.drop_of_length_le (by omega)]
    simp [less]
  | d + 1, i, out, h, hl => by
    have hi : i < E.length := by omega
    refine Ev.succ ?_
    simp only [impl_Net_less.l0, rd_T_nat E i hi]
    refine Ev.pos (by omega) (Ev.pos (by omega) (Ev.pos (by omega) (Ev.bind (z41 gone E[i] hg) ?_)))
    rw [List.drop_eq_getElem_cons hi, w64 (by omega)]
    by_cases h0 : E[i] ∈ gone
    · rw [z26 h0]
      exact Ev.pos (dec_t h0) (z131 n E gone hE hg d (i + 1) out (by omega) (by omega))
    · rw [z27 h0]
      refine Ev.neg (by rw [dec_f h0]; simp) (Ev.pos (by omega) ?_)
      refine Ev.cast (z131 n E gone hE hg d (i + 1) (out ++ [E[i]]) (by omega) (by simp only [List.length_append, List.length_singleton]; omega)) ?_
      simp
theorem ev_less (n : Int) (E gone : List T) (hE : E.length ≤ 1048576) (hg : gone.length ≤ 1048576) : Ev (fun k => impl_Net_less.f k n E gone) (n, less E (· ∈ gone)) := by
  simp only [impl_Net_less.f]
  exact z131 n E gone hE hg E.length 0 [] (by omega) (by simp)
theorem less_one (E : List T) (t : T) : less E (· ∈ [t]) = less E (· = t) := z23 (fun s _ => by simp)
end Go.Proofs.Ytffflhmblelegaa.Th
namespace Go.Proofs.Ytffflhmblelegaa.Th
open Go.RowKit Go.Proofs.YtffflhmblelegaaW.PrintWords Go.Proofs.YtffflhmblelegaaW.PrintLast Go.Proofs.YtffflhmblelegaaW.PrintMore Go.Proofs.Ytffflhmblelegaa.F Classical
def HoldsP (s : Int) (P : T → Prop) : Prop := ∀ t : T, mpIn t.f0 t.f1 → mpBit s t.f0 t.f1 = dec (P t)
theorem holdsP_nil : HoldsP 0 (fun _ => False) := fun t _ => by rw [mpBit_zero, dec_f (by simp)]
theorem HoldsP.add {s : Int} {P : T → Prop} (h : HoldsP s P) {t : T} (ht : mpIn t.f0 t.f1) : HoldsP (mpSet s t.f0 t.f1) (fun u => P u ∨ u = t) := fun u hu => by
  rw [mpBit_set ht hu, h u hu]
  refine dec_of ?_
  rw [Bool.or_eq_true, dec_iff, decide_eq_true_eq]
  exact or_congr_right ⟨fun k => T.ext k.1 k.2, fun k => by rw [k]; exact ⟨rfl, rfl⟩⟩
theorem HoldsP.congr {s : Int} {P Q : T → Prop} (h : HoldsP s P) (e : ∀ t, P t ↔ Q t) : HoldsP s Q := fun t ht => by rw [h t ht]; exact z0 (e t)
theorem mpIn_mem {n : Int} {E : List T} (h : OK n E) {t : T} (ht : t ∈ E) : mpIn t.f0 t.f1 := by
  have := h.tie t ht
  have := h.n8
  unfold mpIn
  omega
theorem mpIn_tie {n : Int} {E : List T} (h : OK n E) {a b : Int} (ha : In n a) (hb : In n b) : mpIn (tie a b).f0 (tie a b).f1 := by
  have := h.n8
  unfold In at ha hb
  unfold mpIn tie
  split <;> simp <;> omega
theorem z132 {s : Int} {t : T} (ht : mpIn t.f0 t.f1) : impl_mapAdd.f s t.f0 t.f1 = some (mpSet s t.f0 t.f1) := by unfold impl_mapAdd.f; rw [if_pos ht]
theorem z133 {s : Int} {P : T → Prop} (h : HoldsP s P) {t : T} (ht : mpIn t.f0 t.f1) : impl_mapHas.f s t.f0 t.f1 = some (dec (P t), s) := by unfold impl_mapHas.f; rw [if_pos ht, h t ht]
theorem rdL_W (R : List (List Int)) (j : Nat) (hj : j < R.length) : rd_L2 R (j : Int) = R[j] := by
  unfold rd_L2
  rw [List.getD_eq_getElem?_getD, Int.toNat_natCast, List.getElem?_eq_getElem hj]
  rfl
theorem z134 {n : Int} {E : List T} (h : OK n E) {W : List (List Int)} {w : List Int} (hin : ∀ v ∈ w, In n v) (hl : w.length ≤ 8) {x : Nat} (hx : x < W.length) (hW : W.length ≤ 1000000000) {r : List T} :
    ∀ (d i : Nat) (s : Int) (P : T → Prop), 1 ≤ i → (i + d = w.length ∨ d = 0 ∧ w.length ≤ i) → HoldsP s P →
      (∀ s', HoldsP s' (fun u => P u ∨ u ∈ es (w.drop (i - 1))) → Ev (fun k => impl_Net_block.l0 k W W.length ((x : Int) + 1) n E s') r) →
      Ev (fun k => impl_Net_block.l1 k w i W W.length x n E s) r
  | 0, i, s, P, h1, hd, hs, hnext => by
    refine Ev.succ ?_
    simp only [impl_Net_block.l1]
    refine Ev.neg (by omega) ?_
    rw [w64 (by omega)]
    refine hnext s (hs.congr (fun u => ?_))
    have e : es (w.drop (i - 1)) = [] := by
      have hle : (w.drop (i - 1)).length ≤ 1 := by rw [List.length_drop]; omega
      match w.drop (i - 1), hle with
      | [], _ => rfl
      | [_], _ => rfl
      | _ :: _ :: _, hle => simp at hle
    rw [e]; simp
  | d + 1, i, s, P, h1, hd, hs, hnext => by
    obtain ⟨j, rfl⟩ : ∃ j, i = j + 1 := ⟨i - 1, by omega⟩
    have hj1 : j + 1 < w.length := by omega
    have e2 : es (w.drop (j + 1 - 1)) = tie w[j] w[j + 1] :: es (w.drop (j + 1 + 1 - 1)) := by
      rw [show j + 1 - 1 = j by omega, show j + 1 + 1 - 1 = j + 1 by omega, List.drop_eq_getElem_cons (by omega : j < w.length), List.drop_eq_getElem_cons hj1]
      rfl
    rw [e2] at hnext
    have hm := mpIn_tie h (hin w[j] (List.getElem_mem _)) (hin w[j + 1] (List.getElem_mem _))
    refine Ev.succ ?_
    simp only [impl_Net_block.l1]
    rw [w64 (x := ((j + 1 : Nat) : Int) - 1) (by omega), show ((j + 1 : Nat) : Int) - 1 = (j : Int) by omega, z20 w j (by omega), z20 w (j + 1) hj1]
    refine Ev.pos (by omega) (Ev.pos (by omega) (Ev.pos (by omega) (Ev.pos (by omega) (Ev.bind0 (z42 _ _) (Ev.bind0 (z132 hm) ?_)))))
    rw [w64 (by omega), show ((j + 1 : Nat) : Int) + 1 = ((j + 1 + 1 : Nat) : Int) by omega]
    refine z134 h hin hl hx hW d (j + 1 + 1) _ _ (by omega) (by omega) (hs.add hm) (fun s' h3 => hnext s' (h3.congr (fun u => ?_)))
    rw [List.mem_cons]
    exact ⟨fun k => k.elim (fun k => k.elim Or.inl (fun e => Or.inr (Or.inl e))) (fun k => Or.inr (Or.inr k)), fun k => k.elim (fun k => Or.inl (Or.inl k)) (fun k => k.elim (fun e => Or.inl (Or.inr e)) Or.inr)⟩
theorem z135 {n : Int} {E : List T} (h : OK n E) {s : Int} {P : T → Prop} (hs : HoldsP s P) : ∀ (d i : Nat) (out : List T), i + d = E.length → out.length ≤ i →
    Ev (fun k => impl_Net_block.l2 k out E E.length i s) (out ++ (E.drop i).filter (fun t => dec (P t)))
  | 0, i, out, hd, _ => by
    rw [List.drop_of_length_le (by omega), List.filter_nil, List.append_nil]
    refine Ev.succ ?_
    simp only [impl_Net_block.l2]
    exact Ev.neg (by omega) (Ev.now _)
  | d + 1, i, out, hd, ho => by
    have hl := h.length
    have hi : i < E.length := by omega
    have hm := mpIn_mem h (List.getElem_mem hi)
    rw [List.drop_eq_getElem_cons hi]
    refine Ev.succ ?_
    simp only [impl_Net_block.l2]
    rw [rd_T_nat E i hi]
    refine Ev.pos (by omega) (Ev.pos (by omega) (Ev.pos (by omega) (Ev.bind0 (z133 hs hm) ?_)))
    rw [w64 (by omega)]
    by_cases hp : P E[i]
    · rw [List.filter_cons_of_pos (p := fun t => dec (P t)) (dec_t hp)]
      have := z135 h hs d (i + 1) (out ++ [E[i]]) (by omega) (by simp; omega)
      rw [List.append_assoc] at this
      exact Ev.pos (dec_t hp) (Ev.pos (by omega) (by exact_mod_cast this))
    · rw [List.filter_cons_of_neg (p := fun t => dec (P t)) (by rw [dec_f hp]; simp)]
      have := z135 h hs d (i + 1) out (by omega) (by omega)
      exact Ev.neg (by rw [dec_f hp]; simp) (by exact_mod_cast this)
theorem z136 {n : Int} {E : List T} (h : OK n E) {W : List (List Int)} (hin : ∀ w ∈ W, w.length ≤ 8 ∧ ∀ v ∈ w, In n v) (hW : W.length ≤ 1000000000) {r : List T} :
    ∀ (d i : Nat) (s : Int) (P : T → Prop), i + d = W.length → HoldsP s P →
      (∀ s', HoldsP s' (fun u => P u ∨ ∃ w ∈ W.drop i, u ∈ es w) → Ev (fun k => impl_Net_block.l2 k [] E E.length 0 s') r) →
      Ev (fun k => impl_Net_block.l0 k W W.length i n E s) r
  | 0, i, s, P, hd, hs, hnext => by
    refine Ev.succ ?_
    simp only [impl_Net_block.l0]
    refine Ev.neg (by omega) (hnext s (hs.congr (fun u => ?_)))
    rw [List.drop_of_length_le (by omega)]; simp
  | d + 1, i, s, P, hd, hs, hnext => by
    have hi : i < W.length := by omega
    have hw := hin _ (List.getElem_mem hi)
    refine Ev.succ ?_
    simp only [impl_Net_block.l0]
    rw [rdL_W W i hi]
    refine Ev.pos (by omega) (Ev.pos (by omega) (Ev.pos (by omega) ?_))
    have key := z134 h (W := W) hw.2 hw.1 hi hW (r := r) (W[i].length - 1) 1 s P (by omega) (by omega) hs (fun s' h3 => ?_)
    · exact key
    · have := z136 h hin hW d (i + 1) s' _ (by omega) h3 (fun s2 h4 => hnext s2 (h4.congr (fun u => ?_)))
      · exact_mod_cast this
      · rw [List.drop_eq_getElem_cons hi, show 1 - 1 = 0 by omega, List.drop_zero]
        constructor
        · rintro ((k | k) | ⟨w, hw, k⟩)
          · exact Or.inl k
          · exact Or.inr ⟨_, List.mem_cons.2 (Or.inl rfl), k⟩
          · exact Or.inr ⟨w, List.mem_cons_of_mem _ hw, k⟩
        · rintro (k | ⟨w, hw, k⟩)
          · exact Or.inl (Or.inl k)
          · rcases List.mem_cons.1 hw with e | e
            · subst e; exact Or.inl (Or.inr k)
            · exact Or.inr ⟨w, e, k⟩
theorem ev_block {n : Int} {E : List T} (h : OK n E) {t : T} (ht : t ∈ E) : Ev (fun k => impl_Net_block.f k n E t.f0 t.f1) (blockL E t) := by
  have hE := h.length
  have hte := h.tie t ht
  have h0 : In n t.f0 := ⟨by omega, by omega⟩
  have hl := h.less (· = t)
  have hlen := allW_len (b := t.f1) hl h0
  have hm := mpIn_mem h ht
  have hnew : impl_mapNew.f = some 0 := rfl
  simp only [impl_Net_block.f]
  refine Ev.bind0 hnew (Ev.bind0 (z132 hm) (Ev.bind (ev_less n E [t] (by omega) (by simp)) ?_))
  rw [less_one]
  refine Ev.bind (ev_all (b := t.f1) hl h0) ?_
  have key := z136 h (W := allW n (less E (· = t)) t.f0 t.f1) (fun w hw => ⟨hlen.2 w hw, fun v hv => ((mem_allW hl h0).1 hw).conn_mem hv |>.inNet hl h0⟩) hlen.1 (r := blockL E t) _ 0 (mpSet 0 t.f0 t.f1) _ (Nat.zero_add _) (holdsP_nil.add hm) (fun s' h3 => ?_)
  · exact_mod_cast key
  · have := z135 h h3 E.length 0 [] (by omega) (by simp)
    rw [List.drop_zero, List.nil_append] at this
    refine Ev.cast (by exact_mod_cast this) ?_
    unfold blockL
    refine List.filter_congr (fun s hs => z0 ?_)
    rw [← cc_iff h ht hs]
    unfold CC
    constructor
    · rintro ((k | k) | ⟨w, hw, k⟩)
      · exact k.elim
      · exact Or.inl k
      · exact Or.inr ⟨w, (mem_allW hl h0).1 hw, k⟩
    · rintro (k | ⟨w, p, k⟩)
      · exact Or.inl (Or.inr k)
      · exact Or.inr ⟨w, (mem_allW hl h0).2 p, k⟩
end Go.Proofs.Ytffflhmblelegaa.Th
namespace Go.Proofs.Ytffflhmblelegaa.Th
open Go.RowKit Go.Proofs.YtffflhmblelegaaW.PrintWords Go.Proofs.YtffflhmblelegaaW.PrintLast Go.Proofs.YtffflhmblelegaaW.PrintMore Go.Proofs.Ytffflhmblelegaa.F
theorem z137 (n : Int) (E : List T) (s t : T) (hE : E.length ≤ 1048576) : Ev (fun k => impl_BlockSame.f k n E s.f0 s.f1 t.f0 t.f1) (dec (OK n E ∧ s ∈ E ∧ t ∈ E ∧ Bl E s t)) := by
  simp only [impl_BlockSame.f]
  refine Ev.bind (z8 n E hE) ?_
  by_cases h : OK n E
  · refine Ev.pos (dec_t h) (Ev.bind (z41 E s hE) ?_)
    by_cases hs : s ∈ E
    · refine Ev.pos (dec_t hs) (Ev.bind (ev_block h hs) ?_)
      have hl := z130 E s
      refine Ev.bind (z41 (blockL E s) t (by omega)) (Ev.some_ (z0 ?_))
      rw [z128]
      exact ⟨fun k => ⟨h, hs, k.1, k.2⟩, fun k => ⟨k.2.2.1, k.2.2.2⟩⟩
    · exact Ev.neg (by rw [dec_f hs]; simp) (Ev.some_ (dec_f (fun k => hs k.2.1)).symm)
  · exact Ev.neg (by rw [dec_f h]; simp) (Ev.some_ (dec_f (fun k => h k.1)).symm)
end Go.Proofs.Ytffflhmblelegaa.Th
namespace Go.Proofs.Ytffflhmblelegaa.Pure
open Go.RowKit Go.Proofs.YtffflhmblelegaaW.PrintWords Go.Proofs.YtffflhmblelegaaW.PrintLast Go.Proofs.YtffflhmblelegaaW.PrintMore Go.Proofs.Ytffflhmblelegaa.F Go.Proofs.Ytffflhmblelegaa.Th Classical
theorem loTie_eq (a b : Int) : laws_loTie.f a b = some ((tie a b).f0, (tie a b).f1) := by
  unfold laws_loTie.f tie
  by_cases k : a < b
  · rw [if_pos k, if_pos k]
  · rw [if_neg k, if_neg k]
theorem es_at : ∀ (w : List Int) (m : Nat) (h : m + 1 < w.length), tie w[m] w[m + 1] ∈ es w
  | [], m, h => by simp at h
  | [_], m, h => by simp at h
  | a :: b :: r, 0, _ => by unfold es; simp
  | a :: b :: r, m + 1, h => by
    have := es_at (b :: r) m (by simpa using h)
    unfold es
    exact List.mem_cons_of_mem _ this
section
variable {n : Int} {E : List T} {x y : List Int} {t : T}
theorem z138 (hE : E.length ≤ 1048576) (h : OK n E) (ht : t ∈ E) (hy : y.length ≤ 20) (hb : ∀ s ∈ es y, s ∈ E ∧ Bl E t s) : ∀ (d i : Nat), i + 1 + d = y.length → Ev (fun k => laws_FnTwoLong.l1 k y ((i : Int) + 1) n E t.f0 t.f1) true
  | 0, i, hd => by
    refine Ev.succ ?_
    simp only [laws_FnTwoLong.l1]
    exact Ev.neg (by omega) (Ev.now _)
  | d + 1, i, hd => by
    have hm := es_at y i (by omega)
    refine Ev.succ ?_
    simp only [laws_FnTwoLong.l1]
    rw [w64 (x := (i : Int) + 1 - 1) (by omega), show (i : Int) + 1 - 1 = (i : Int) by omega, show (i : Int) + 1 = ((i + 1 : Nat) : Int) by omega, z20 y i (by omega), z20 y (i + 1) (by omega)]
    refine Ev.pos (by omega) (Ev.pos (by omega) (Ev.pos (by omega) (Ev.pos (by omega) (Ev.bind0 (loTie_eq _ _) (Ev.bind (z137 n E t (tie y[i] y[i + 1]) hE) (Ev.pos (dec_t ⟨h, ht, (hb _ hm).1, (hb _ hm).2⟩) ?_))))))
    rw [w64 (by omega)]
    exact z138 hE h ht hy hb d (i + 1) (by omega)
theorem z139 (hE : E.length ≤ 1048576) (h : OK n E) (ht : t ∈ E) (hx : x.length ≤ 20) (hy : y.length ≤ 20) (hy2 : 2 ≤ y.length) (hb : ∀ s, s ∈ es x ∨ s ∈ es y → s ∈ E ∧ Bl E t s) : ∀ (d i : Nat), i + 1 + d = x.length → Ev (fun k => laws_FnTwoLong.l0 k x y ((i : Int) + 1) n E t.f0 t.f1) true
  | 0, i, hd => by
    refine Ev.succ ?_
    simp only [laws_FnTwoLong.l0]
    refine Ev.neg (by omega) ?_
    have := z138 hE h ht hy (fun s hs => hb s (Or.inr hs)) (y.length - 1) 0 (by omega)
    rw [show ((0 : Nat) : Int) + 1 = 1 by omega] at this
    exact this
  | d + 1, i, hd => by
    have hm := es_at x i (by omega)
    have hm2 := hb _ (Or.inl hm)
    refine Ev.succ ?_
    simp only [laws_FnTwoLong.l0]
    rw [w64 (x := (i : Int) + 1 - 1) (by omega), show (i : Int) + 1 - 1 = (i : Int) by omega, show (i : Int) + 1 = ((i + 1 : Nat) : Int) by omega, z20 x i (by omega), z20 x (i + 1) (by omega)]
    refine Ev.pos (by omega) (Ev.pos (by omega) (Ev.pos (by omega) (Ev.pos (by omega) (Ev.bind0 (loTie_eq _ _) (Ev.bind (z137 n E t (tie x[i] x[i + 1]) hE) (Ev.pos (dec_t ⟨h, ht, hm2.1, hm2.2⟩) ?_))))))
    rw [w64 (by omega)]
    exact z139 hE h ht hx hy hy2 hb d (i + 1) (by omega)
end
theorem FnTwoLong : laws_FnTwoLong.Pure := by
  intro l hl
  refine Ev.rounds (g := fun k => laws_FnTwoLong.f k l) ?_
  simp only [laws_FnTwoLong.f]
  by_cases h1 : (l.length : Int) > 1048576
  · exact Ev.pos h1 (Ev.now _)
  · obtain ⟨n, E, a, b, x, y, hd, hn, hx, hy⟩ := z127 l hl
    refine Ev.neg h1 (Ev.bind hd (Ev.bind (z104 n E a b x y hn.le (by omega) (by omega)) (Ev.bind (z102 n E a b x y hn.le hn.wf (by omega) (by omega)) (Ev.neg (by simp) (Ev.succ ?_)))))
    simp only [laws_FnTwoLong.j0]
    by_cases k : Two n E a b x y
    · obtain ⟨⟨h, ha, hab⟩, p, q, ap⟩ := two_path.1 k
      have hx2 := Path.two hab p
      have hy2 := Path.two hab q
      have hin : ∀ s, s ∈ es x ∨ s ∈ es y → s ∈ E := fun s hs => hs.elim (fun hs => z35 p hs) (fun hs => z35 q hs)
      have hm := es_at x 0 (by omega)
      refine Ev.neg (by rw [dec_t k]; simp) (Ev.pos (by omega) (Ev.pos (by omega) ?_))
      rw [show (rd x 0) = x[0] from z20 x 0 (by omega), show (rd x 1) = x[1] from z20 x 1 (by omega)]
      refine Ev.bind0 (loTie_eq _ _) ?_
      have := z139 (t := tie x[0] x[1]) hn.le h (hin _ (Or.inl hm)) hx hy hy2 (fun s hs => ⟨hin s hs, bl_two h hab p q ((apart_of p).1 ap).2 (Or.inl hm) hs⟩) (x.length - 1) 0 (by omega)
      rw [show ((0 : Nat) : Int) + 1 = 1 by omega] at this
      exact this
    · exact Ev.pos (by rw [dec_f k]; rfl) (Ev.bind (z102 n E a b x y hn.le hn.wf (by omega) (by omega)) (Ev.some_ (by simp)))
end Go.Proofs.Ytffflhmblelegaa.Pure
