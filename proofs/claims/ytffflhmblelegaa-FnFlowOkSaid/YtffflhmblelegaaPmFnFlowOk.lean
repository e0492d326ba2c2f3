/-
P59: ways that have no tie twice are so in any order, and with one less.
-/
import Derived.Test.YtffflhmblelegaaWs
import Derived.WalkKit
import Derived.ProofKit
import Derived.Deep.Slices
import Derived.ChangeSame
import Derived.Test.YtffflhmblelegaaF0
import Derived.Test.YtffflhmblelegaaF3
import Derived.Test.YtffflhmblelegaaF4
import Derived.Test.YtffflhmblelegaaF14
import Derived.Test.YtffflhmblelegaaF6
import Derived.Test.YtffflhmblelegaaF17
import Derived.Test.YtffflhmblelegaaF18
import Derived.Test.YtffflhmblelegaaF9
import Derived.Test.YtffflhmblelegaaF20
import Derived.Test.YtffflhmblelegaaF12
import Derived.Test.YtffflhmblelegaaF11
import Derived.Test.YtffflhmblelegaaF13
import Derived.Test.YtffflhmblelegaaF10
import Derived.Test.YtffflhmblelegaaF8
import Derived.Test.YtffflhmblelegaaXAll
import Derived.Test.YtffflhmblelegaaXWayAll
import Derived.Test.YtffflhmblelegaaF15
import Derived.Test.YtffflhmblelegaaF16
import Derived.Test.YtffflhmblelegaaF21
import Derived.Test.YtffflhmblelegaaF22
namespace Go.Proofs.Ytffflhmblelegaa.Op
open Go.ChangeShapes Go.WideShapes Go.Deep Go.Proofs.YtffflhmblelegaaW.PrintWords
def Opens {α : Type} (P : Program) (t : TypeId) (d : Kd α) (I : α → Prop) : Prop :=
  ∀ {H : Type} (enc : TypeId × Value → H) (W : World) (base : Nat) (held : Bool) (fuel : Nat) (cs : List Value) (x : DataW H × List MemPlace),
    DataW.trod enc P W base (fun _ => true) held fuel t cs = some x → ∃ a, I a ∧ d.K W a cs
theorem opens_int {P : Program} {t : TypeId} {k : IntKind} (ht : P.underlying t = some (.int k)) : Opens P t (Kd.int k) (fun x => (Lit.int k x).wf = true) := by
  intro H enc W base held fuel cs x h
  obtain ⟨n, rfl, _, hw⟩ := DataW.trod_int ht h
  exact ⟨n, hw, rfl⟩
theorem opens_slice {α : Type} [Inhabited α] {P : Program} {t e : TypeId} {d : Kd α} {I : α → Prop} (ht : P.underlying t = some (.slice e)) (hC : P.cellsOf e = d.sz) (h : Opens P e d I) :
    Opens P t (Kd.slice e d) (fun l => l.length ≤ maxLen ∧ ∀ x ∈ l, I x) := by
  intro H enc W base held fuel cs x hx
  rcases open_slice ht hx with ⟨rfl, _⟩ | ⟨a, len, cap, m, n, D, Pl, rfl, hb, hl, hm, hmm, _, hi⟩
  · exact ⟨[], ⟨Nat.zero_le _, fun _ h => by cases h⟩, none, 0, rfl, Nat.le_refl _, rfl, Nat.zero_le _, fun h => absurd h (Nat.lt_irrefl 0)⟩
  · simp only [if_true] at hmm
    rw [hmm] at hi
    clear hmm
    have each : ∀ i, i < len → ∃ y : α, I y ∧ ∃ cs', cs'.length = d.sz ∧ d.K W y cs' ∧ ∀ j u, cs'[j]? = some u → W.cell? (a.add (i * d.sz + j)) = some u := by
      intro i hi'
      obtain ⟨cs', hc, hd⟩ := hi i (by omega)
      obtain ⟨y, iy, ky⟩ := h enc W base held n _ _ hd
      rw [hC] at hc
      obtain ⟨_, hcl, hat⟩ := World.cells?_some hc
      refine ⟨y, iy, cs', hcl, ky, fun j u hu => ?_⟩
      have hj := (List.getElem?_eq_some_iff.1 hu).1
      rw [← Go.Deep.add_add, hat j (by omega), hu]
    obtain ⟨f, hf⟩ := choose_lt each
    refine ⟨(List.range len).map f, ⟨by simpa using Nat.le_trans hl hm, ?_⟩, some a, cap, ?_, ?_, rfl, ?_, ?_⟩
    · intro x hx
      obtain ⟨i, hi', rfl⟩ := List.mem_map.1 hx
      exact (hf i (List.mem_range.1 hi')).1
    · simp
    · simpa using hl
    · have := Nat.le_trans hl hm
      unfold maxLen at this
      simpa using this
    · intro _
      refine ⟨a, rfl, fun j p hj => ?_⟩
      obtain ⟨hj', rfl⟩ := List.getElem?_eq_some_iff.1 hj
      simp only [List.getElem_map, List.getElem_range]
      obtain ⟨_, cs', h1, h2, h3⟩ := hf j (by simpa using hj')
      exact ⟨cs', h1, h2, h3⟩
theorem Opens.asSlice {H : Type} {enc : TypeId × Value → H} {α : Type} {P : Program} {t e : TypeId} {d : Kd α} {I : List α → Prop} (h : Opens P t (Kd.slice e d) I) {W : World} {base : Nat} {held : Bool} {A : Option Addr} {n c : Nat} {x : DataW H} {ps : List MemPlace}
    (hx : DataW.Trod enc P W base (fun _ => true) held t (.slice A n c) x ps) : ∃ l, n = l.length ∧ I l ∧ l.length ≤ c ∧ d.C W A l.length l := by
  obtain ⟨fuel, hf⟩ := hx
  obtain ⟨l, il, A', c', hcs, hl, hC⟩ := h enc W base held fuel _ _ hf
  simp only [Value.cells, List.cons.injEq, and_true, Value.slice.injEq] at hcs
  obtain ⟨rfl, rfl, rfl⟩ := hcs
  exact ⟨l, rfl, il, hl, hC⟩
end Go.Proofs.Ytffflhmblelegaa.Op
namespace Go.Proofs.Ytffflhmblelegaa.Th
open Go.RowKit Go.Proofs.YtffflhmblelegaaW.PrintWords Go.Proofs.YtffflhmblelegaaW.PrintLast Go.Proofs.YtffflhmblelegaaW.PrintMore Go.Proofs.Ytffflhmblelegaa.F
theorem w64 {x : Int} (h : -9223372036854775808 ≤ x ∧ x ≤ 9223372036854775807) : wrap64 x = x := by unfold wrap64; omega
theorem wf_u8 {x : Int} (h : (Lit.int .u8 x).wf = true) : 0 ≤ x ∧ x ≤ 255 := by
  simp only [Lit.wf, Bool.and_eq_true, decide_eq_true_eq] at h
  exact h
theorem Ev.succ {α : Type} {g : Nat → Option α} {r : α} (h : Ev (fun k => g (k + 1)) r) : Ev g r := Ev.step (fun _ => rfl) h
theorem Ev.some_ {α : Type} {r s : α} (h : s = r) : Ev (fun _ => some s) r := by subst h; exact Ev.now _
theorem Ev.pos {α : Type} {c : Prop} [Decidable c] {a b : Nat → Option α} {r : α} (hc : c) (h : Ev a r) : Ev (fun k => if c then a k else b k) r := Ev.congr (fun _ => if_pos hc) h
theorem Ev.neg {α : Type} {c : Prop} [Decidable c] {a b : Nat → Option α} {r : α} (hc : ¬ c) (h : Ev b r) : Ev (fun k => if c then a k else b k) r := Ev.congr (fun _ => if_neg hc) h
theorem Ev.bind0 {α β : Type} {o : Option α} {a : α} {f : Nat → α → Option β} {r : β} (h : o = some a) (k : Ev (fun n => f n a) r) : Ev (fun n => o.bind (f n)) r := by subst h; exact k
theorem Ev.cast {α : Type} {g : Nat → Option α} {r s : α} (h : Ev g r) (e : r = s) : Ev g s := e ▸ h
noncomputable def dec (p : Prop) : Bool := @decide p (Classical.propDecidable p)
theorem dec_iff {p : Prop} : dec p = true ↔ p := by unfold dec; exact @decide_eq_true_iff p (Classical.propDecidable p)
theorem dec_t {p : Prop} (h : p) : dec p = true := dec_iff.2 h
theorem dec_f {p : Prop} (h : ¬ p) : dec p = false := by
  cases e : dec p with
  | false => rfl
  | true => exact absurd (dec_iff.1 e) h
theorem dec_of {b : Bool} {p : Prop} (h : b = true ↔ p) : b = dec p := by rw [Bool.eq_iff_iff, h, dec_iff]
theorem z0 {p q : Prop} (h : p ↔ q) : dec p = dec q := by rw [Bool.eq_iff_iff, dec_iff, dec_iff, h]
theorem Ev.tt {g : Nat → Option Bool} {p : Prop} (hp : p) (h : Ev g true) : Ev g (dec p) := by rw [dec_t hp]; exact h
theorem Ev.ff {g : Nat → Option Bool} {p : Prop} (hp : ¬ p) (h : Ev g false) : Ev g (dec p) := by rw [dec_f hp]; exact h
theorem Ev.dec {g : Nat → Option Bool} {p : Prop} {b : Bool} (h : Ev g b) (hb : b = true ↔ p) : Ev g (dec p) := Ev.cast h (dec_of hb)
theorem rd_nat (l : List Int) (i : Nat) : rd l (i : Int) = l.getD i 0 := by simp [rd]
abbrev T := S52
theorem T.ext {s t : T} (h0 : s.f0 = t.f0) (h1 : s.f1 = t.f1) : s = t := by cases s; cases t; simp_all
instance : DecidableEq T := fun a b => decidable_of_iff (a.f0 = b.f0 ∧ a.f1 = b.f1) ⟨fun h => T.ext h.1 h.2, fun h => by subst h; exact ⟨rfl, rfl⟩⟩
instance : Inhabited T := ⟨⟨0, 0⟩⟩
def lt (s t : T) : Prop := s.f0 < t.f0 ∨ s.f0 = t.f0 ∧ s.f1 < t.f1
instance (s t : T) : Decidable (lt s t) := inferInstanceAs (Decidable (_ ∨ _))
theorem lt_trans {s t u : T} (h : lt s t) (k : lt t u) : lt s u := by unfold lt at *; omega
theorem lt_tri (s t : T) : lt s t ∨ s = t ∨ lt t s := by
  by_cases h : s.f0 = t.f0 <;> by_cases k : s.f1 = t.f1
  · exact Or.inr (Or.inl (T.ext h k))
  · unfold lt; omega
  · unfold lt; omega
  · unfold lt; omega
def Asc (E : List T) : Prop := E.Pairwise lt
def AscN : List T → Bool
  | [] => true
  | [_] => true
  | s :: t :: r => decide (lt s t) && AscN (t :: r)
theorem ascN_iff : ∀ E : List T, AscN E = true ↔ Asc E
  | [] => by simp [AscN, Asc]
  | [_] => by simp [AscN, Asc]
  | s :: t :: r => by
    have ih := ascN_iff (t :: r)
    simp only [AscN, Bool.and_eq_true, decide_eq_true_eq, ih, Asc, List.pairwise_cons]
    constructor
    · rintro ⟨h, k, m⟩
      refine ⟨fun u hu => ?_, k, m⟩
      rcases List.mem_cons.1 hu with rfl | hu
      · exact h
      · exact lt_trans h (k u hu)
    · rintro ⟨h, k⟩
      exact ⟨h t (by simp), k⟩
structure OK (n : Int) (E : List T) : Prop where
  n0 : 0 ≤ n
  n8 : n ≤ 8
  tie : ∀ t ∈ E, 0 ≤ t.f0 ∧ t.f0 < t.f1 ∧ t.f1 < n
  asc : Asc E
theorem rd_T_nat (E : List T) (i : Nat) (h : i < E.length) : rd_T52 E i = E[i] := by
  simp [rd_T52, List.getD_eq_getElem?_getD, List.getElem?_eq_getElem h]
theorem z1 (E : List T) (h : Asc E) : ∀ m : Nat, (∀ t ∈ E, 0 ≤ t.f0 * 8 + t.f1 ∧ t.f1 < 8 ∧ 0 ≤ t.f1 ∧ t.f0 * 8 + t.f1 < m) → E.length ≤ m := by
  -- the numbers 8 a + b ascend
  have key : ∀ (E : List T), Asc E → ∀ lo m : Int, lo ≤ m → (∀ t ∈ E, lo ≤ t.f0 * 8 + t.f1 ∧ t.f1 < 8 ∧ 0 ≤ t.f1 ∧ t.f0 * 8 + t.f1 < m) → (E.length : Int) ≤ m - lo := by
    intro E
    induction E with
    | nil => intro _ lo m h _; simp; omega
    | cons s r ih =>
      intro ha lo m hlm hb
      have hs := hb s (by simp)
      have := ih (List.Pairwise.of_cons ha) (s.f0 * 8 + s.f1 + 1) m (by omega) (fun t ht => by
        have h1 := (List.pairwise_cons.1 ha).1 t ht
        have h2 := hb t (by simp [ht])
        unfold lt at h1
        omega)
      simp only [List.length_cons]
      omega
  intro m hb
  have := key E h 0 m (by omega) (fun t ht => by have := hb t ht; omega)
  omega
theorem OK.length {n : Int} {E : List T} (h : OK n E) : E.length ≤ 64 := by
  refine z1 E h.asc 64 (fun t ht => ?_)
  have := h.tie t ht
  have := h.n8
  omega
theorem l6In (a b c : Int) : spec_l6In.f a b c = some (decide (b ≤ a ∧ a ≤ c)) := by
  unfold spec_l6In.f
  by_cases h : a ≥ b
  · rw [if_pos h]; congr 1; exact decide_eq_decide.2 (by omega)
  · rw [if_neg h]; congr 1; symm; exact decide_eq_false (by omega)
theorem l1Less (s t : T) : spec_l1Less.f s.f0 s.f1 t.f0 t.f1 = some (decide (lt s t)) := by
  unfold spec_l1Less.f lt
  by_cases h : s.f0 < t.f0
  · rw [if_pos h]; congr 1; symm; exact decide_eq_true (by omega)
  · rw [if_neg h]
    by_cases k : s.f0 = t.f0
    · rw [if_pos k]; congr 1; exact decide_eq_decide.2 (by omega)
    · rw [if_neg k]; congr 1; symm; exact decide_eq_false (by omega)
def okAt (n : Int) (E : List T) (i : Nat) : Bool :=
  match E[i]? with
  | none => true
  | some t => decide (0 ≤ t.f0 ∧ t.f0 ≤ n - 1) && decide (t.f0 + 1 ≤ t.f1 ∧ t.f1 ≤ n - 1) && (match i with | 0 => true | j + 1 => match E[j]? with | none => true | some s => decide (lt s t))
theorem z2 (n : Int) (E : List T) (hn : 0 ≤ n ∧ n ≤ 8) (hE : E.length ≤ 64) (hw : ∀ t ∈ E, (-9223372036854775808 ≤ t.f0 ∧ t.f0 ≤ 9223372036854775807)) :
    ∀ (d i : Nat), i + d = E.length → Ev (fun k => spec_NetOk.l0 k i n E) ((List.range' i d).all (okAt n E))
  | 0, i, h => by
    refine Ev.succ ?_
    simp only [spec_NetOk.l0]
    refine Ev.neg (by omega) ?_
    exact Ev.some_ (by simp)
  | d + 1, i, h => by
    have hi : i < E.length := by omega
    have hE' : E[i]? = some E[i] := List.getElem?_eq_getElem hi
    refine Ev.succ ?_
    simp only [spec_NetOk.l0, rd_T_nat E i hi]
    refine Ev.pos (by omega) (Ev.pos (by omega) ?_)
    rw [w64 (x := n - 1) (by omega)]
    refine Ev.bind0 (l6In _ _ _) ?_
    simp only [List.range'_succ, List.all_cons]
    by_cases h1 : 0 ≤ E[i].f0 ∧ E[i].f0 ≤ n - 1
    · refine Ev.pos (decide_eq_true h1) ?_
      have h2 := hw E[i] (List.getElem_mem hi)
      rw [w64 (x := E[i].f0 + 1) (by omega)]
      refine Ev.bind0 (l6In _ _ _) ?_
      by_cases h3 : E[i].f0 + 1 ≤ E[i].f1 ∧ E[i].f1 ≤ n - 1
      · refine Ev.pos (decide_eq_true h3) ?_
        have hrec := z2 n E hn hE hw d (i + 1) (by omega)
        cases i with
        | zero =>
          refine Ev.neg (by omega) ?_
          rw [w64 (by omega)]
          refine Ev.cast hrec ?_
          simp [okAt, hE', h1, h3]
        | succ j =>
          refine Ev.pos (by omega) ?_
          have hj : wrap64 (((j + 1 : Nat) : Int) - 1) = (j : Int) := by rw [w64 (by omega)]; omega
          rw [hj]
          refine Ev.pos (by omega) (Ev.pos (by omega) ?_)
          rw [rd_T_nat E j (by omega)]
          refine Ev.bind0 (l1Less _ _) ?_
          have hEj : E[j]? = some (E[j]'(by omega)) := List.getElem?_eq_getElem (by omega)
          by_cases h4 : lt (E[j]'(by omega)) E[j + 1]
          · refine Ev.pos (decide_eq_true h4) ?_
            rw [w64 (by omega)]
            refine Ev.cast hrec ?_
            simp [okAt, hE', hEj, h1, h3, h4]
          · refine Ev.neg (by simp [h4]) ?_
            exact Ev.some_ (by simp [okAt, hE', hEj, h4])
      · refine Ev.neg (by simp [h3]) ?_
        refine Ev.some_ ?_
        simp only [okAt, hE', decide_eq_false h3, Bool.and_false, Bool.false_and]
    · refine Ev.neg (by simp only [decide_eq_true_eq]; exact h1) ?_
      refine Ev.some_ ?_
      simp only [okAt, hE', decide_eq_false h1, Bool.false_and]
theorem okAt_iff (n : Int) (E : List T) (hn : 0 ≤ n ∧ n ≤ 8) : (List.range' 0 E.length).all (okAt n E) = true ↔ OK n E := by
  rw [List.all_eq_true]
  have hr : ∀ i, i ∈ List.range' 0 E.length ↔ i < E.length := fun i => by simp [List.mem_range']
  constructor
  · intro h
    refine ⟨hn.1, hn.2, fun t ht => ?_, ?_⟩
    · obtain ⟨i, hi, rfl⟩ := List.mem_iff_getElem.1 ht
      have := h i ((hr i).2 hi)
      simp only [okAt, List.getElem?_eq_getElem hi, Bool.and_eq_true, decide_eq_true_eq] at this
      omega
    · refine List.pairwise_iff_getElem.2 ?_
      -- neighbours ascend, so all do
      have nb : ∀ j, (hj : j + 1 < E.length) → lt (E[j]'(by omega)) E[j + 1] := fun j hj => by
        have := h (j + 1) ((hr _).2 hj)
        simp only [okAt, List.getElem?_eq_getElem hj, List.getElem?_eq_getElem (show j < E.length by omega), Bool.and_eq_true, decide_eq_true_eq] at this
        exact this.2
      intro i j hi hj hij
      induction j with
      | zero => omega
      | succ j ih =>
        by_cases e : i = j
        · subst e; exact nb i hj
        · exact lt_trans (ih (by omega) (by omega)) (nb j hj)
  · intro h i hi
    rw [hr] at hi
    have h1 := h.tie E[i] (List.getElem_mem hi)
    simp only [okAt, List.getElem?_eq_getElem hi, Bool.and_eq_true, decide_eq_true_eq]
    refine ⟨⟨by omega, by omega⟩, ?_⟩
    cases i with
    | zero => rfl
    | succ j =>
      simp only [List.getElem?_eq_getElem (show j < E.length by omega), decide_eq_true_eq]
      exact List.pairwise_iff_getElem.1 h.asc j (j + 1) (by omega) hi (by omega)
def WF (E : List T) : Prop := ∀ t ∈ E, (-9223372036854775808 ≤ t.f0 ∧ t.f0 ≤ 9223372036854775807) ∧ (-9223372036854775808 ≤ t.f1 ∧ t.f1 ≤ 9223372036854775807)
theorem OK.wf {n : Int} {E : List T} (h : OK n E) : WF E := fun t ht => by have := h.tie t ht; have := h.n8; omega
theorem z3 (n : Int) (E : List T) (hE : E.length ≤ 1048576) (hw : WF E) : Ev (fun k => spec_NetOk.f k n E) (dec (OK n E)) := by
  simp only [spec_NetOk.f]
  refine Ev.bind0 (l6In _ _ _) ?_
  by_cases hn : 0 ≤ n ∧ n ≤ 8
  · refine Ev.pos (decide_eq_true hn) ?_
    refine Ev.succ ?_
    simp only [spec_NetOk.j0]
    by_cases hl : (E.length : Int) > 64
    · refine Ev.pos (decide_eq_true hl) ?_
      exact Ev.ff (fun h => by have := h.length; omega) (Ev.now _)
    · refine Ev.neg (by simp only [decide_eq_true_eq]; exact hl) ?_
      exact Ev.dec (z2 n E hn (by omega) (fun t ht => (hw t ht).1) E.length 0 (by omega)) (okAt_iff n E hn)
  · refine Ev.neg (by simp only [decide_eq_true_eq]; exact hn) ?_
    refine Ev.succ ?_
    simp only [spec_NetOk.j0]
    refine Ev.pos trivial ?_
    exact Ev.ff (fun h => hn ⟨h.n0, h.n8⟩) (Ev.now _)
theorem compare (a b : Int) : cmp_Compare_int.f a b = some (if a < b then -1 else if a > b then 1 else 0) := by
  unfold cmp_Compare_int.f cmp_isNaN_int.f
  simp only [bne_self_eq_false, Option.bind_some]
  rw [if_neg (by decide), if_neg (by decide)]
  split
  · rfl
  · split <;> rfl
theorem ev_or2 (x y : Int) : Ev (fun k => cmp_Or_int.f k [x, y]) (if x = 0 then y else x) := by
  simp only [cmp_Or_int.f]
  refine Ev.succ ?_
  simp only [cmp_Or_int.l0, List.length_cons, List.length_nil]
  refine Ev.pos (by decide) (Ev.pos (by decide) (Ev.pos (by simp) ?_))
  have r0 : rd [x, y] 0 = x := rfl
  rw [r0]
  by_cases h : x = 0
  · refine Ev.pos h ?_
    rw [if_pos h]
    refine Ev.succ ?_
    simp only [cmp_Or_int.l0]
    rw [show wrap64 (0 + 1) = 1 from by unfold wrap64; omega]
    refine Ev.pos (by decide) (Ev.pos (by decide) (Ev.pos (by simp) ?_))
    have r1 : rd [x, y] 1 = y := rfl
    rw [r1]
    by_cases k : y = 0
    · refine Ev.pos k ?_
      refine Ev.succ ?_
      simp only [cmp_Or_int.l0]
      rw [show wrap64 (1 + 1) = 2 from by unfold wrap64; omega]
      refine Ev.neg (by decide) ?_
      exact Ev.some_ k.symm
    · exact Ev.neg k (Ev.now _)
  · refine Ev.neg h ?_
    rw [if_neg h]
    exact Ev.now _
theorem z4 (s t : T) : ∃ c : Int, Ev (fun k => impl_tieOrder.f k s.f0 s.f1 t.f0 t.f1) c ∧ (c < 0 ↔ lt s t) := by
  refine ⟨if (if s.f0 < t.f0 then (-1 : Int) else if s.f0 > t.f0 then 1 else 0) = 0 then (if s.f1 < t.f1 then -1 else if s.f1 > t.f1 then 1 else 0) else (if s.f0 < t.f0 then -1 else if s.f0 > t.f0 then 1 else 0), ?_, ?_⟩
  · simp only [impl_tieOrder.f]
    refine Ev.bind0 (compare _ _) (Ev.bind0 (compare _ _) (Ev.bind (ev_or2 _ _) ?_))
    exact Ev.now _
  · unfold lt
    by_cases h1 : s.f0 < t.f0
    · simp only [if_pos h1]
      rw [if_neg (by omega)]
      omega
    · by_cases h2 : s.f0 > t.f0
      · simp only [if_neg h1, if_pos h2]
        rw [if_neg (by omega)]
        omega
      · simp only [if_neg h1, if_neg h2]
        rw [if_pos trivial]
        split
        · omega
        · split <;> omega
theorem z5 (E : List T) (hE : E.length ≤ 1048576) : ∀ (d i : Nat), 0 < i → i + d = E.length → Ev (fun k => impl_ascending.l0 k E i) (AscN (E.drop (i - 1)))
  | 0, i, h0, h => by
    refine Ev.succ ?_
    simp only [impl_ascending.l0]
    refine Ev.neg (by omega) ?_
    refine Ev.some_ ?_
    have : E.drop (i - 1) = [E[i - 1]'(by omega)] := by
      rw [List.drop_eq_getElem_cons (by omega), List.drop_of_length_le (by omega)]
    rw [this]; rfl
  | d + 1, i, h0, h => by
    obtain ⟨j, rfl⟩ : ∃ j, i = j + 1 := ⟨i - 1, by omega⟩
    have hj : j < E.length := by omega
    have hj1 : j + 1 < E.length := by omega
    refine Ev.succ ?_
    simp only [impl_ascending.l0]
    have hw : wrap64 (((j + 1 : Nat) : Int) - 1) = (j : Int) := by rw [w64 (by omega)]; omega
    rw [hw]
    refine Ev.pos (by omega) (Ev.pos (by omega) (Ev.pos (by omega) (Ev.pos (by omega) ?_)))
    rw [rd_T_nat E j hj, rd_T_nat E (j + 1) hj1]
    obtain ⟨c, hc, hlt⟩ := z4 E[j] E[j + 1]
    refine Ev.bind hc ?_
    have hd : E.drop (j + 1 - 1) = E[j] :: E[j + 1] :: E.drop (j + 2) := by
      rw [Nat.add_sub_cancel, List.drop_eq_getElem_cons hj, List.drop_eq_getElem_cons hj1]
    rw [hd]
    simp only [AscN]
    by_cases h4 : c ≥ 0
    · refine Ev.pos h4 (Ev.some_ ?_)
      rw [decide_eq_false (fun k => by have := hlt.2 k; omega)]
      rfl
    · refine Ev.neg h4 ?_
      rw [w64 (by omega)]
      refine Ev.cast (z5 E hE d (j + 2) (by omega) (by omega)) ?_
      rw [decide_eq_true (hlt.1 (by omega)), show j + 2 - 1 = j + 1 from rfl, List.drop_eq_getElem_cons hj1]
      simp
theorem z6 (E : List T) (hE : E.length ≤ 1048576) : Ev (fun k => impl_ascending.f k E) (dec (Asc E)) := by
  simp only [impl_ascending.f]
  rw [← dec_of (ascN_iff E)]
  by_cases h : E.length = 0
  · refine Ev.succ ?_
    simp only [impl_ascending.l0]
    refine Ev.neg (by omega) ?_
    have : E = [] := List.length_eq_zero_iff.1 h
    subst this
    exact Ev.now _
  · have := z5 E hE (E.length - 1) 1 (by omega) (by omega)
    simpa using this
theorem z7 (n : Int) (E : List T) (hE : E.length ≤ 1048576) : ∀ (d i : Nat), i + d = E.length →
    Ev (fun k => impl_NetOk.l0 k E E.length i n E) (dec ((∀ t ∈ E.drop i, 0 ≤ t.f0 ∧ t.f0 < t.f1 ∧ t.f1 < n) ∧ Asc E))
  | 0, i, h => by
    refine Ev.succ ?_
    simp only [impl_NetOk.l0]
    refine Ev.neg (by omega) ?_
    refine Ev.bind (z6 E hE) ?_
    refine Ev.some_ (z0 ?_)
    rw [List.drop_of_length_le (by omega)]
    simp
  | d + 1, i, h => by
    have hi : i < E.length := by omega
    refine Ev.succ ?_
    simp only [impl_NetOk.l0, rd_T_nat E i hi]
    refine Ev.pos (by omega) (Ev.pos (by omega) (Ev.pos (by omega) ?_))
    rw [List.drop_eq_getElem_cons hi]
    by_cases h1 : E[i].f0 < 0
    · exact Ev.pos h1 (Ev.ff (fun a => by have := a.1 E[i] List.mem_cons_self; omega) (Ev.now _))
    · refine Ev.neg h1 ?_
      by_cases h2 : E[i].f0 ≥ E[i].f1
      · exact Ev.pos h2 (Ev.ff (fun a => by have := a.1 E[i] List.mem_cons_self; omega) (Ev.now _))
      · refine Ev.neg h2 ?_
        by_cases h3 : E[i].f1 ≥ n
        · exact Ev.pos h3 (Ev.ff (fun a => by have := a.1 E[i] List.mem_cons_self; omega) (Ev.now _))
        · refine Ev.neg h3 ?_
          rw [w64 (by omega)]
          refine Ev.cast (z7 n E hE d (i + 1) (by omega)) (z0 ?_)
          simp only [List.forall_mem_cons]
          exact ⟨fun a => ⟨⟨by omega, a.1⟩, a.2⟩, fun a => ⟨a.1.2, a.2⟩⟩
theorem z8 (n : Int) (E : List T) (hE : E.length ≤ 1048576) : Ev (fun k => impl_NetOk.f k n E) (dec (OK n E)) := by
  simp only [impl_NetOk.f]
  by_cases h0 : n < 0
  · refine Ev.pos h0 (Ev.succ ?_)
    simp only [impl_NetOk.j0]
    exact Ev.pos trivial (Ev.ff (fun h => by have := h.n0; omega) (Ev.now _))
  · refine Ev.neg h0 (Ev.succ ?_)
    simp only [impl_NetOk.j0]
    by_cases h8 : n > 8
    · exact Ev.pos (decide_eq_true h8) (Ev.ff (fun h => by have := h.n8; omega) (Ev.now _))
    · refine Ev.neg (by simp only [decide_eq_true_eq]; exact h8) ?_
      refine Ev.cast (z7 n E hE E.length 0 (by omega)) (z0 ?_)
      rw [List.drop_zero]
      exact ⟨fun h => ⟨by omega, by omega, h.1, h.2⟩, fun h => ⟨h.tie, h.asc⟩⟩
def tie (a b : Int) : T := if a < b then ⟨a, b⟩ else ⟨b, a⟩
theorem tie_comm (a b : Int) : tie a b = tie b a := by
  unfold tie
  by_cases h : a < b
  · rw [if_pos h, if_neg (by omega)]
  · by_cases k : b < a
    · rw [if_neg h, if_pos k]
    · have : a = b := by omega
      subst this; rfl
theorem l1Tie (a b : Int) : spec_l1Tie.f a b = some ((tie a b).f0, (tie a b).f1) := by
  unfold spec_l1Tie.f tie
  split <;> rfl
def Has (E : List T) (a b : Int) : Prop := tie a b ∈ E
theorem Has.symm {E : List T} {a b : Int} (h : Has E a b) : Has E b a := by unfold Has at *; rw [tie_comm]; exact h
theorem z9 (n : Int) (E : List T) (a b : Int) (hE : E.length ≤ 1048576) : ∀ (d i : Nat), i + d = E.length → Ev (fun k => spec_l1Has.l0 k a b i n E) (dec (tie a b ∈ E.drop i))
  | 0, i, h => by
    refine Ev.succ ?_
    simp only [spec_l1Has.l0]
    refine Ev.neg (by omega) (Ev.ff ?_ (Ev.now _))
    rw [List.drop_of_length_le (by omega)]; simp
  | d + 1, i, h => by
    have hi : i < E.length := by omega
    refine Ev.succ ?_
    simp only [spec_l1Has.l0, rd_T_nat E i hi]
    refine Ev.pos (by omega) (Ev.pos (by omega) (Ev.bind0 (l1Tie a b) ?_))
    rw [List.drop_eq_getElem_cons hi]
    by_cases e : E[i] = tie a b
    · exact Ev.pos (by rw [e]; simp) (Ev.tt (by rw [e]; exact List.mem_cons_self) (Ev.now _))
    · refine Ev.neg (fun k => e ?_) ?_
      · simp only [Bool.and_eq_true, beq_iff_eq] at k
        exact T.ext k.1 k.2
      · rw [w64 (by omega)]
        refine Ev.cast (z9 n E a b hE d (i + 1) (by omega)) (z0 ?_)
        rw [List.mem_cons]
        exact ⟨Or.inr, fun k => k.resolve_left (fun x => e x.symm)⟩
theorem ev_l1Has (n : Int) (E : List T) (a b : Int) (hE : E.length ≤ 1048576) : Ev (fun k => spec_l1Has.f k n E a b) (dec (Has E a b)) := by
  simp only [spec_l1Has.f]
  exact z9 n E a b hE E.length 0 (by omega)
def In (n k : Int) : Prop := 0 ≤ k ∧ k < n
instance (n k : Int) : Decidable (In n k) := inferInstanceAs (Decidable (_ ∧ _))
theorem knot_eq (n : Int) (E : List T) (a : Int) : impl_Net_knot.f n E a = some (dec (In n a)) := by
  unfold impl_Net_knot.f
  by_cases h : a ≥ 0
  · rw [if_pos h]; congr 1; exact dec_of (by unfold In; rw [decide_eq_true_iff]; omega)
  · rw [if_neg h]; congr 1; exact (dec_f (by unfold In; omega)).symm
theorem z10 (n : Int) (E : List T) (a : Int) (hE : E.length ≤ 1048576) (hw : WF E) : Ev (fun k => spec_l1Knot.f k n E a) (dec (OK n E ∧ In n a)) := by
  simp only [spec_l1Knot.f]
  refine Ev.bind (z3 n E hE hw) ?_
  by_cases h : OK n E
  · have := h.n0
    have := h.n8
    refine Ev.pos (dec_t h) ?_
    rw [w64 (by omega)]
    refine Ev.bind0 (l6In _ _ _) (Ev.some_ (dec_of ?_))
    rw [decide_eq_true_iff]
    unfold In
    exact ⟨fun k => ⟨h, by omega⟩, fun k => by omega⟩
  · exact Ev.neg (by rw [dec_f h]; simp) (Ev.ff (fun k => h k.1) (Ev.now _))
theorem z11 (n : Int) (E : List T) (a b : Int) (hE : E.length ≤ 1048576) (hw : WF E) : Ev (fun k => spec_NetHas.f k n E a b) (dec (OK n E ∧ Has E a b)) := by
  simp only [spec_NetHas.f]
  refine Ev.bind (z3 n E hE hw) ?_
  by_cases h : OK n E
  · exact Ev.pos (dec_t h) (Ev.bind (ev_l1Has n E a b hE) (Ev.some_ (z0 ⟨fun k => ⟨h, k⟩, fun k => k.2⟩)))
  · exact Ev.neg (by rw [dec_f h]; simp) (Ev.ff (fun k => h k.1) (Ev.now _))
theorem OK.has {n : Int} {E : List T} (h : OK n E) {a b : Int} (hab : Has E a b) : In n a ∧ In n b ∧ a ≠ b := by
  have := h.tie _ hab
  unfold Th.tie at this
  unfold In
  split at this <;> simp only at this <;> omega
def ks (n : Int) : List Int := (List.range n.toNat).map (fun i : Nat => (i : Int))
theorem mem_ks {n k : Int} : k ∈ ks n ↔ 0 ≤ k ∧ k < n := by
  unfold ks
  simp only [List.mem_map, List.mem_range]
  exact ⟨fun ⟨i, h, e⟩ => by omega, fun h => ⟨k.toNat, by omega, by omega⟩⟩
theorem z12 (n : Int) : (ks n).length = n.toNat := by simp [ks]
theorem z13 (n : Int) (i : Nat) (h : i < (ks n).length) : (ks n)[i] = (i : Int) := by simp [ks]
theorem z14 (n : Int) : (ks n).Pairwise (· < ·) := by
  refine List.pairwise_iff_getElem.2 (fun i j hi hj h => ?_)
  rw [z13, z13]; omega
theorem ks_nodup (n : Int) : (ks n).Nodup := (z14 n).imp (fun h => by omega)
def ksFrom (n j : Int) : List Int := (ks n).drop j.toNat
theorem z15 (n : Int) : ksFrom n 0 = ks n := by simp [ksFrom]
theorem z16 {n j : Int} (h : n ≤ j) : ksFrom n j = [] := by
  unfold ksFrom
  exact List.drop_of_length_le (by rw [z12]; omega)
theorem z17 {n j : Int} (h0 : 0 ≤ j) (h : j < n) : ksFrom n j = j :: ksFrom n (j + 1) := by
  unfold ksFrom
  rw [List.drop_eq_getElem_cons (by rw [z12]; omega), z13]
  rw [show (j + 1).toNat = j.toNat + 1 by omega]
  congr 1
  omega
theorem rd_i (l : List Int) (x : Int) (h : 0 ≤ x) (k : x < l.length) : rd l x = l[x.toNat]'(by omega) := by
  simp [rd, List.getD_eq_getElem?_getD, List.getElem?_eq_getElem (show x.toNat < l.length by omega)]
def falses : List Bool → Nat
  | [] => 0
  | b :: l => (if b then 0 else 1) + falses l
theorem all_loop {L : Nat → Nat → Option Bool} (len : Nat) (p : Nat → Prop) (hend : Ev (fun k => L k len) true) (hyes : ∀ i, i < len → p i → ∀ b, Ev (fun k => L k (i + 1)) b → Ev (fun k => L k i) b)
    (hno : ∀ i, i < len → ¬ p i → Ev (fun k => L k i) false) : ∀ d i, i + d = len → Ev (fun k => L k i) (dec (∀ j, i ≤ j → j < len → p j))
  | 0, i, h => by
    obtain rfl : i = len := by omega
    exact Ev.tt (fun j h1 h2 => by omega) hend
  | d + 1, i, h => by
    by_cases hp : p i
    · refine Ev.cast (hyes i (by omega) hp _ (all_loop len p hend hyes hno d (i + 1) (by omega))) (z0 ?_)
      constructor
      · intro a j h1 h2
        by_cases e : j = i
        · subst e; exact hp
        · exact a j (by omega) h2
      · intro a j h1 h2; exact a j (by omega) h2
    · exact Ev.ff (fun a => hp (a i (Nat.le_refl _) (by omega))) (hno i (by omega) hp)
theorem any_loop {L : Nat → Nat → Option Bool} (len : Nat) (p : Nat → Prop) (hend : Ev (fun k => L k len) false) (hno : ∀ i, i < len → ¬ p i → ∀ b, Ev (fun k => L k (i + 1)) b → Ev (fun k => L k i) b)
    (hyes : ∀ i, i < len → p i → Ev (fun k => L k i) true) : ∀ d i, i + d = len → Ev (fun k => L k i) (dec (∃ j, i ≤ j ∧ j < len ∧ p j))
  | 0, i, h => by
    obtain rfl : i = len := by omega
    exact Ev.ff (fun ⟨j, h1, h2, _⟩ => by omega) hend
  | d + 1, i, h => by
    by_cases hp : p i
    · exact Ev.tt ⟨i, Nat.le_refl _, by omega, hp⟩ (hyes i (by omega) hp)
    · refine Ev.cast (hno i (by omega) hp _ (any_loop len p hend hno hyes d (i + 1) (by omega))) (z0 ?_)
      constructor
      · rintro ⟨j, h1, h2, h3⟩; exact ⟨j, by omega, h2, h3⟩
      · rintro ⟨j, h1, h2, h3⟩
        by_cases e : j = i
        · subst e; exact absurd h3 hp
        · exact ⟨j, by omega, h2, h3⟩
theorem z18 (l : List Int) (i : Nat) (h : i < l.length) : rd l (i : Int) = l[i] := by
  rw [rd_nat, List.getD_eq_getElem?_getD, List.getElem?_eq_getElem h, Option.getD_some]
theorem z19 (l : List Int) (x : Int) : x ∈ l ↔ ∃ j, 0 ≤ j ∧ j < l.length ∧ rd l (j : Int) = x := by
  rw [List.mem_iff_getElem]
  constructor
  · rintro ⟨j, h, e⟩; exact ⟨j, Nat.zero_le _, h, by rw [z18 l j h]; exact e⟩
  · rintro ⟨j, _, h, e⟩; exact ⟨j, h, by rw [← z18 l j h]; exact e⟩
inductive Conn (E : List T) : Int → Int → Prop
  | refl (a : Int) : Conn E a a
  | step {a b c : Int} : Conn E a b → Has E b c → Conn E a c
theorem Conn.one {E : List T} {a b : Int} (h : Has E a b) : Conn E a b := .step (.refl a) h
theorem Conn.trans {E : List T} {a b c : Int} (h : Conn E a b) (k : Conn E b c) : Conn E a c := by
  induction k with
  | refl => exact h
  | step _ m ih => exact .step ih m
theorem Conn.mono {E F : List T} (h : ∀ t, t ∈ E → t ∈ F) {a b : Int} (k : Conn E a b) : Conn F a b := by
  induction k with
  | refl => exact .refl _
  | step _ m ih => exact .step ih (h _ m)
theorem Conn.keeps {E : List T} {P : Int → Prop} (h : ∀ a b, Has E a b → P a → P b) {a b : Int} (k : Conn E a b) (ha : P a) : P b := by
  induction k with
  | refl => exact ha
  | step _ m ih => exact h _ _ m ih
theorem Conn.inNet {n : Int} {E : List T} (h : OK n E) {a b : Int} (k : Conn E a b) (ha : In n a) : In n b := k.keeps (fun _ _ m _ => (h.has m).2.1) ha
theorem Conn.first {E : List T} {a b : Int} (h : Conn E a b) : a = b ∨ ∃ c, Has E a c ∧ Conn E c b := by
  induction h with
  | refl => exact Or.inl rfl
  | step m hb ih =>
    rcases ih with rfl | ⟨c, h1, h2⟩
    · exact Or.inr ⟨_, hb, .refl _⟩
    · exact Or.inr ⟨c, h1, .step h2 hb⟩
theorem tie_inj {a b c d : Int} (h : tie a b = tie c d) : (a = c ∧ b = d) ∨ (a = d ∧ b = c) := by
  unfold tie at h
  split at h <;> split at h <;> simp only [S52.mk.injEq] at h <;> omega
theorem OK.nil {n : Int} (h0 : 0 ≤ n) (h8 : n ≤ 8) : OK n [] := ⟨h0, h8, by simp, List.Pairwise.nil⟩
noncomputable def less (E : List T) (p : T → Prop) : List T := E.filter (fun t => !dec (p t))
def Walk (R : Int → Int → Prop) : List Int → Prop
  | [] => True
  | [_] => True
  | a :: b :: l => R a b ∧ Walk R (b :: l)
theorem walk_iff (R : Int → Int → Prop) : ∀ w : List Int, Walk R w ↔ ∀ j : Nat, j + 1 < w.length → R (rd w (j : Int)) (rd w ((j + 1 : Nat) : Int))
  | [] => by simp [Walk]
  | [_] => by simp [Walk]
  | a :: b :: l => by
    rw [Walk, walk_iff R (b :: l)]
    constructor
    · rintro ⟨h, k⟩ j hj
      cases j with
      | zero => simpa [rd] using h
      | succ j =>
        have := k j (by simp at hj ⊢; omega)
        rw [rd_nat, rd_nat] at this ⊢
        simpa using this
    · intro h
      refine ⟨by simpa [rd] using h 0 (by simp), fun j hj => ?_⟩
      have := h (j + 1) (by simp at hj ⊢; omega)
      rw [rd_nat, rd_nat] at this ⊢
      simpa using this
theorem nodup_iff (w : List Int) : w.Nodup ↔ ∀ j : Nat, j < w.length → rd w (j : Int) ∉ w.take j := by
  unfold List.Nodup
  rw [List.pairwise_iff_getElem]
  constructor
  · intro h j hj hm
    rw [z18 w j hj] at hm
    obtain ⟨i, hi, e⟩ := List.mem_iff_getElem.1 hm
    have hi' : i < j := by simp at hi; omega
    exact h i j (by omega) hj hi' (by simpa using e)
  · intro h i j hi hj hij e
    refine h j hj ?_
    rw [z18 w j hj, ← e]
    exact List.mem_iff_getElem.2 ⟨i, by simp; omega, by simp⟩
structure IsWay (n : Int) (E : List T) (w : List Int) : Prop where
  ne : w ≠ []
  inn : ∀ v ∈ w, In n v
  nd : w.Nodup
  walk : Walk (Has E) w
def WayAt (n : Int) (E : List T) (w : List Int) (j : Nat) : Prop := In n (rd w (j : Int)) ∧ rd w (j : Int) ∉ w.take j ∧ (0 < j → Has E (rd w ((j - 1 : Nat) : Int)) (rd w (j : Int)))
theorem z20 (n : Int) (E : List T) (w : List Int) : IsWay n E w ↔ w ≠ [] ∧ ∀ j, 0 ≤ j → j < w.length → WayAt n E w j := by
  constructor
  · intro h
    refine ⟨h.ne, fun j _ hj => ⟨h.inn _ (by rw [z18 w j hj]; exact List.getElem_mem hj), (nodup_iff w).1 h.nd j hj, fun h0 => ?_⟩⟩
    have := (walk_iff _ w).1 h.walk (j - 1) (by omega)
    rwa [show j - 1 + 1 = j by omega] at this
  · rintro ⟨h0, h⟩
    refine ⟨h0, fun v hv => ?_, (nodup_iff w).2 fun j hj => (h j (Nat.zero_le _) hj).2.1, (walk_iff _ w).2 fun j hj => ?_⟩
    · obtain ⟨j, _, hj, rfl⟩ := (z19 w v).1 hv
      exact (h j (Nat.zero_le _) hj).1
    · exact (h (j + 1) (Nat.zero_le _) hj).2.2 (by omega)
def Leads (n : Int) (E : List T) (a b : Int) (w : List Int) : Prop := OK n E ∧ IsWay n E w ∧ rd w 0 = a ∧ rd w ((w.length : Int) - 1) = b
theorem Leads.pos {n : Int} {E : List T} {a b : Int} {w : List Int} (h : Leads n E a b w) : 0 < w.length := List.length_pos_iff.2 h.2.1.ne
theorem z21 (R : Int → Int → Prop) (a b : Int) (l : List Int) : Walk R (a :: b :: l) ↔ R a b ∧ Walk R (b :: l) := Iff.rfl
theorem walk_app (R : Int → Int → Prop) : ∀ (A : List Int) (k : Int) (B : List Int), Walk R (A ++ k :: B) ↔ Walk R (A ++ [k]) ∧ Walk R (k :: B)
  | [], k, B => by simp [Walk]
  | [a], k, B => by simp [Walk]
  | a :: b :: A, k, B => by
    have := walk_app R (b :: A) k B
    simp only [List.cons_append, z21] at this ⊢
    rw [this, and_assoc]
theorem z22 {R S : Int → Int → Prop} (h : ∀ a b, R a b → S a b) : ∀ w : List Int, Walk R w → Walk S w
  | [], _ => trivial
  | [_], _ => trivial
  | _ :: b :: l, k => ⟨h _ _ k.1, z22 h (b :: l) k.2⟩
theorem walk_rev {R : Int → Int → Prop} (hs : ∀ a b, R a b → R b a) : ∀ w : List Int, Walk R w → Walk R w.reverse
  | [], _ => trivial
  | [_], _ => trivial
  | a :: b :: l, k => by
    have ih := walk_rev hs (b :: l) k.2
    rw [List.reverse_cons] at ih ⊢
    rw [List.reverse_cons, List.append_assoc, List.singleton_append]
    exact (walk_app R _ _ _).2 ⟨ih, hs _ _ k.1, trivial⟩
def es : List Int → List T
  | [] => []
  | [_] => []
  | a :: b :: l => tie a b :: es (b :: l)
theorem es_app : ∀ (A : List Int) (k : Int) (B : List Int), es (A ++ k :: B) = es (A ++ [k]) ++ es (k :: B)
  | [], k, B => by simp [es]
  | [a], k, B => by simp [es]
  | a :: b :: A, k, B => by
    have := es_app (b :: A) k B
    simp only [List.cons_append, es] at this ⊢
    rw [this]
theorem z23 : ∀ (w : List Int) (t : T), t ∈ es w.reverse ↔ t ∈ es w
  | [], t => by simp
  | [_], t => by simp
  | a :: b :: l, t => by
    have ih := z23 (b :: l) t
    rw [List.reverse_cons] at ih ⊢
    rw [List.reverse_cons, List.append_assoc, List.singleton_append, es_app, List.mem_append, ih]
    simp only [es, List.mem_cons, List.not_mem_nil, or_false]
    rw [tie_comm b a]
    exact Or.comm
theorem mem_es {t : T} : ∀ {w : List Int}, t ∈ es w → ∃ A k x B, w = A ++ k :: x :: B ∧ tie k x = t
  | [], h => by simp [es] at h
  | [_], h => by simp [es] at h
  | a :: b :: l, h => by
    simp only [es, List.mem_cons] at h
    rcases h with h | h
    · exact ⟨[], a, b, l, rfl, h.symm⟩
    · obtain ⟨A, k, x, B, e, ht⟩ := mem_es (w := b :: l) h
      exact ⟨a :: A, k, x, B, by rw [e]; rfl, ht⟩
theorem walk_es {E : List T} : ∀ {w : List Int}, Walk (Has E) w ↔ ∀ t ∈ es w, t ∈ E
  | [] => by simp [Walk, es]
  | [_] => by simp [Walk, es]
  | a :: b :: l => by
    rw [z21, walk_es (w := b :: l)]
    simp only [es, List.mem_cons, forall_eq_or_imp]
    exact Iff.rfl
structure Path (E : List T) (a b : Int) (w : List Int) : Prop where
  nd : w.Nodup
  walk : Walk (Has E) w
  hd : w.head? = some a
  lst : w.getLast? = some b
theorem Path.mono {E F : List T} (h : ∀ t, t ∈ E → t ∈ F) {a b : Int} {w : List Int} (p : Path E a b w) : Path F a b w := ⟨p.nd, z22 (fun _ _ k => h _ k) w p.walk, p.hd, p.lst⟩
theorem Path.rev {E : List T} {a b : Int} {w : List Int} (p : Path E a b w) : Path E b a w.reverse :=
  ⟨List.pairwise_reverse.2 (p.nd.imp fun h => h.symm), walk_rev (fun _ _ k => k.symm) _ p.walk, by rw [List.head?_reverse]; exact p.lst, by rw [List.getLast?_reverse]; exact p.hd⟩
theorem Path.ne {E : List T} {a b : Int} {w : List Int} (p : Path E a b w) : w ≠ [] := by
  rintro rfl; have := p.hd; simp at this
theorem Path.single (E : List T) (a : Int) : Path E a a [a] := ⟨by simp, trivial, rfl, rfl⟩
theorem Path.cons_eq {E : List T} {a b : Int} {w : List Int} (p : Path E a b w) : ∃ r, w = a :: r := by
  cases w with
  | nil => exact absurd rfl p.ne
  | cons x r => have := p.hd; simp at this; exact ⟨r, by rw [this]⟩
theorem Path.drop {E : List T} {a b k : Int} {A B : List Int} (p : Path E a b (A ++ k :: B)) : Path E k b (k :: B) :=
  ⟨(List.nodup_append.1 p.nd).2.1, ((walk_app _ _ _ _).1 p.walk).2, rfl, by have := p.lst; rw [List.getLast?_append] at this; simpa using this⟩
theorem Path.take {E : List T} {a b k : Int} {A B : List Int} (p : Path E a b (A ++ k :: B)) : Path E a k (A ++ [k]) := by
  refine ⟨?_, ((walk_app _ _ _ _).1 p.walk).1, ?_, by simp⟩
  · have := p.nd
    rw [List.nodup_append] at this ⊢
    refine ⟨this.1, by simp, fun x hx y hy => ?_⟩
    simp only [List.mem_singleton] at hy
    subst hy
    exact this.2.2 x hx y (by simp)
  · have := p.hd
    cases A <;> simpa using this
theorem Path.consP {E : List T} {k a b : Int} {w : List Int} (p : Path E a b w) (h : Has E k a) (hk : k ∉ w) : Path E k b (k :: w) := by
  obtain ⟨r, rfl⟩ := p.cons_eq
  exact ⟨List.nodup_cons.2 ⟨hk, p.nd⟩, ⟨h, p.walk⟩, rfl, by have := p.lst; simpa using this⟩
theorem Path.conn {E : List T} : ∀ {w : List Int} {a b : Int}, Path E a b w → Conn E a b
  | [], a, b, p => absurd rfl p.ne
  | [x], a, b, p => by
    have h := p.hd; have l := p.lst
    simp at h l
    subst h; subst l
    exact .refl _
  | x :: y :: r, a, b, p => by
    have h := p.hd
    simp at h
    subst h
    have q : Path E y b (y :: r) := Path.drop (A := [x]) p
    exact (Conn.one p.walk.1).trans q.conn
theorem Path.conn_mem {E : List T} {w : List Int} {a b : Int} (p : Path E a b w) {x : Int} (hx : x ∈ w) : Conn E a x := by
  obtain ⟨A, B, rfl⟩ := List.append_of_mem hx
  exact p.take.conn
def On (t : T) (x : Int) : Prop := x = t.f0 ∨ x = t.f1
theorem on_tie {a b x : Int} : On (tie a b) x ↔ x = a ∨ x = b := by
  unfold On tie
  split
  · exact Iff.rfl
  · exact Or.comm
def Two2 (n : Int) (E : List T) (a b : Int) : Prop := OK n E ∧ In n a ∧ In n b ∧ a ≠ b
theorem z24 (n : Int) (E : List T) (a b : Int) (hE : E.length ≤ 1048576) : Ev (fun k => impl_twoKnots.f k n E a b) (dec (Two2 n E a b)) := by
  simp only [impl_twoKnots.f]
  refine Ev.bind (z8 n E hE) ?_
  by_cases h : OK n E
  · refine Ev.pos (dec_t h) (Ev.bind0 (knot_eq n E a) ?_)
    by_cases ha : In n a
    · refine Ev.pos (dec_t ha) (Ev.bind0 (knot_eq n E b) ?_)
      by_cases hb : In n b
      · refine Ev.pos (dec_t hb) (Ev.some_ (dec_of ?_))
        rw [bne_iff_ne]
        exact ⟨fun k => ⟨h, ha, hb, k⟩, fun k => k.2.2.2⟩
      · exact Ev.neg (by rw [dec_f hb]; simp) (Ev.ff (fun k => hb k.2.2.1) (Ev.now _))
    · exact Ev.neg (by rw [dec_f ha]; simp) (Ev.ff (fun k => ha k.2.1) (Ev.now _))
  · exact Ev.neg (by rw [dec_f h]; simp) (Ev.ff (fun k => h k.1) (Ev.now _))
theorem z25 (E : List T) (s : T) (hE : E.length ≤ 1048576) : ∀ (d i : Nat), i + d = E.length → ∃ c : Int, Ev (fun k => slices_Index_impl_Tie_impl_Tie.l0 k E E.length i s.f0 s.f1) c ∧ (c ≥ 0 ↔ s ∈ E.drop i)
  | 0, i, h => by
    refine ⟨-1, Ev.succ ?_, ?_⟩
    · simp only [slices_Index_impl_Tie_impl_Tie.l0]
      exact Ev.neg (by omega) (Ev.now _)
    · rw [List.drop_of_length_le (by omega)]; simp
  | d + 1, i, h => by
    have hi : i < E.length := by omega
    by_cases e : s = E[i]
    · refine ⟨i, Ev.succ ?_, ?_⟩
      · simp only [slices_Index_impl_Tie_impl_Tie.l0, rd_T_nat E i hi]
        refine Ev.pos (by omega) (Ev.pos (by omega) (Ev.pos (by omega) (Ev.pos (by rw [e]; simp) (Ev.now _))))
      · rw [List.drop_eq_getElem_cons hi]
        exact ⟨fun _ => by rw [e]; exact List.mem_cons_self, fun _ => by omega⟩
    · obtain ⟨c, hc, hm⟩ := z25 E s hE d (i + 1) (by omega)
      refine ⟨c, Ev.succ ?_, ?_⟩
      · simp only [slices_Index_impl_Tie_impl_Tie.l0, rd_T_nat E i hi]
        refine Ev.pos (by omega) (Ev.pos (by omega) (Ev.pos (by omega) (Ev.neg (fun k => e ?_) ?_)))
        · simp only [Bool.and_eq_true, beq_iff_eq] at k
          exact T.ext k.1 k.2
        · rw [w64 (by omega)]
          exact hc
      · rw [List.drop_eq_getElem_cons hi, List.mem_cons, hm]
        exact ⟨Or.inr, fun k => k.resolve_left e⟩
theorem z26 (E : List T) (s : T) (hE : E.length ≤ 1048576) : Ev (fun k => slices_Contains_impl_Tie_impl_Tie.f k E s.f0 s.f1) (dec (s ∈ E)) := by
  obtain ⟨c, hc, hm⟩ := z25 E s hE E.length 0 (by omega)
  simp only [slices_Contains_impl_Tie_impl_Tie.f, slices_Index_impl_Tie_impl_Tie.f]
  refine Ev.bind hc (Ev.some_ (dec_of ?_))
  rw [decide_eq_true_iff, hm, List.drop_zero]
theorem z27 (a b : Int) : impl_tie.f a b = some ((tie a b).f0, (tie a b).f1) := by
  unfold impl_tie.f tie mn mx
  by_cases h : a < b
  · rw [if_pos h, if_pos h, if_neg (by omega)]
  · rw [if_neg h, if_neg h]
    by_cases k : b < a
    · rw [if_pos k]
    · rw [if_neg k]
      have e : a = b := by omega
      subst e; rfl
theorem ev_has (n : Int) (E : List T) (a b : Int) (hE : E.length ≤ 1048576) : Ev (fun k => impl_Net_has.f k n E a b) (dec (Has E a b)) := by
  simp only [impl_Net_has.f]
  exact Ev.bind0 (z27 a b) (Ev.bind (z26 E (tie a b) hE) (Ev.now _))
theorem z28 (l : List Int) (x : Int) (hl : l.length ≤ 1048576) : ∀ (d i : Nat), i + d = l.length → ∃ c : Int, Ev (fun k => slices_Index_int_int.l0 k l x l.length i) c ∧ (c ≥ 0 ↔ x ∈ l.drop i)
  | 0, i, h => by
    refine ⟨-1, Ev.succ ?_, ?_⟩
    · simp only [slices_Index_int_int.l0]
      exact Ev.neg (by omega) (Ev.now _)
    · rw [List.drop_of_length_le (by omega)]; simp
  | d + 1, i, h => by
    have hi : i < l.length := by omega
    by_cases e : x = l[i]
    · refine ⟨i, Ev.succ ?_, ?_⟩
      · simp only [slices_Index_int_int.l0, z18 l i hi]
        exact Ev.pos (by omega) (Ev.pos (by omega) (Ev.pos (by omega) (Ev.pos e (Ev.now _))))
      · rw [List.drop_eq_getElem_cons hi]
        exact ⟨fun _ => by rw [e]; exact List.mem_cons_self, fun _ => by omega⟩
    · obtain ⟨c, hc, hm⟩ := z28 l x hl d (i + 1) (by omega)
      refine ⟨c, Ev.succ ?_, ?_⟩
      · simp only [slices_Index_int_int.l0, z18 l i hi]
        refine Ev.pos (by omega) (Ev.pos (by omega) (Ev.pos (by omega) (Ev.neg e ?_)))
        rw [w64 (by omega)]
        exact hc
      · rw [List.drop_eq_getElem_cons hi, List.mem_cons, hm]
        exact ⟨Or.inr, fun k => k.resolve_left e⟩
theorem z29 (l : List Int) (x : Int) (hl : l.length ≤ 1048576) : Ev (fun k => slices_Contains_int_int.f k l x) (dec (x ∈ l)) := by
  obtain ⟨c, hc, hm⟩ := z28 l x hl l.length 0 (by omega)
  simp only [slices_Contains_int_int.f, slices_Index_int_int.f]
  refine Ev.bind hc (Ev.some_ (dec_of ?_))
  rw [decide_eq_true_iff, hm, List.drop_zero]
theorem ev_l2Has (l : List Int) (x : Int) (hl : l.length ≤ 1048576) : Ev (fun k => spec_l2Has.f k l x) (dec (x ∈ l)) := by
  simp only [spec_l2Has.f]
  have := any_loop (L := fun k i => spec_l2Has.l0 k l x i) l.length (fun j => rd l (j : Int) = x) ?_ ?_ ?_ l.length 0 (by omega)
  · exact Ev.cast this (z0 (z19 l x).symm)
  · refine Ev.succ ?_
    simp only [spec_l2Has.l0]
    exact Ev.neg (by omega) (Ev.now _)
  · intro i hi hp b hb
    refine Ev.succ ?_
    simp only [spec_l2Has.l0]
    refine Ev.pos (by omega) (Ev.pos (by omega) (Ev.neg hp ?_))
    rw [w64 (by omega)]
    exact hb
  · intro i hi hp
    refine Ev.succ ?_
    simp only [spec_l2Has.l0]
    exact Ev.pos (by omega) (Ev.pos (by omega) (Ev.pos hp (Ev.now _)))
theorem z30 (n : Int) (E : List T) (w : List Int) (hE : E.length ≤ 1048576) (hw : WF E) (hl : w.length ≤ 1048576) : Ev (fun k => spec_WayOk.f k n E w) (dec (OK n E ∧ IsWay n E w)) := by
  simp only [spec_WayOk.f]
  refine Ev.bind (z3 n E hE hw) ?_
  by_cases ok : OK n E
  · refine Ev.pos (dec_t ok) (Ev.succ ?_)
    simp only [spec_WayOk.j0]
    by_cases h0 : (w.length : Int) < 1
    · refine Ev.pos (decide_eq_true h0) (Ev.ff (fun h => h.2.ne (List.length_eq_zero_iff.1 (by omega))) (Ev.now _))
    · refine Ev.neg (by simp only [decide_eq_true_eq]; exact h0) ?_
      have := all_loop (L := fun k i => spec_WayOk.l0 k w i n E) w.length (WayAt n E w) ?_ ?_ ?_ w.length 0 (by omega)
      · refine Ev.cast this (z0 ?_)
        rw [z20]
        exact ⟨fun h => ⟨ok, fun e => by subst e; simp at h0, h⟩, fun h => h.2.2⟩
      · refine Ev.succ ?_
        simp only [spec_WayOk.l0]
        exact Ev.neg (by omega) (Ev.now _)
      · intro i hi hp b hb
        refine Ev.succ ?_
        simp only [spec_WayOk.l0]
        refine Ev.pos (by omega) (Ev.pos (by omega) (Ev.bind (z10 n E _ hE hw) (Ev.pos (dec_t ⟨ok, hp.1⟩) (Ev.pos (by omega) ?_))))
        rw [Int.toNat_natCast]
        refine Ev.bind (ev_l2Has _ _ (by simp; omega)) (Ev.neg (by rw [dec_f hp.2.1]; simp) ?_)
        cases i with
        | zero => exact Ev.neg (by omega) (by rw [w64 (by omega)]; exact hb)
        | succ j =>
          refine Ev.pos (by omega) ?_
          have hj : wrap64 (((j + 1 : Nat) : Int) - 1) = (j : Int) := by rw [w64 (by omega)]; omega
          rw [hj]
          refine Ev.pos (by omega) (Ev.pos (by omega) (Ev.bind (z11 n E _ _ hE hw) (Ev.pos (dec_t ⟨ok, hp.2.2 (by omega)⟩) ?_)))
          rw [w64 (by omega)]; exact hb
      · intro i hi hp
        refine Ev.succ ?_
        simp only [spec_WayOk.l0]
        refine Ev.pos (by omega) (Ev.pos (by omega) (Ev.bind (z10 n E _ hE hw) ?_))
        by_cases h1 : In n (rd w (i : Int))
        · refine Ev.pos (dec_t ⟨ok, h1⟩) (Ev.pos (by omega) ?_)
          rw [Int.toNat_natCast]
          refine Ev.bind (ev_l2Has _ _ (by simp; omega)) ?_
          by_cases h2 : rd w (i : Int) ∈ w.take i
          · exact Ev.pos (dec_t h2) (Ev.now _)
          · refine Ev.neg (by rw [dec_f h2]; simp) ?_
            cases i with
            | zero => exact absurd ⟨h1, h2, fun h => absurd h (by omega)⟩ hp
            | succ j =>
              refine Ev.pos (by omega) ?_
              have hj : wrap64 (((j + 1 : Nat) : Int) - 1) = (j : Int) := by rw [w64 (by omega)]; omega
              rw [hj]
              refine Ev.pos (by omega) (Ev.pos (by omega) (Ev.bind (z11 n E _ _ hE hw) (Ev.neg ?_ (Ev.now _))))
              rw [dec_f (fun h => hp ⟨h1, h2, fun _ => h.2⟩)]; simp
        · exact Ev.neg (by rw [dec_f (fun h => h1 h.2)]; simp) (Ev.now _)
  · refine Ev.neg (by rw [dec_f ok]; simp) (Ev.succ ?_)
    simp only [spec_WayOk.j0]
    exact Ev.pos trivial (Ev.ff (fun h => ok h.1) (Ev.now _))
theorem ev_walk (n : Int) (E : List T) (w : List Int) (hE : E.length ≤ 1048576) (hl : w.length ≤ 1048576) : Ev (fun k => impl_Net_walk.f k n E w) (dec ((∀ v ∈ w, In n v) ∧ Walk (Has E) w)) := by
  simp only [impl_Net_walk.f]
  have := all_loop (L := fun k i => impl_Net_walk.l0 k w w w.length i n E) w.length (fun j => In n (rd w (j : Int)) ∧ (0 < j → Has E (rd w ((j - 1 : Nat) : Int)) (rd w (j : Int)))) ?_ ?_ ?_ w.length 0 (by omega)
  · refine Ev.cast this (z0 ?_)
    constructor
    · intro h
      refine ⟨fun v hv => ?_, (walk_iff _ w).2 fun j hj => (h (j + 1) (Nat.zero_le _) hj).2 (by omega)⟩
      obtain ⟨j, _, hj, rfl⟩ := (z19 w v).1 hv
      exact (h j (Nat.zero_le _) hj).1
    · intro h j _ hj
      refine ⟨h.1 _ (by rw [z18 w j hj]; exact List.getElem_mem hj), fun h0 => ?_⟩
      have := (walk_iff _ w).1 h.2 (j - 1) (by omega)
      rwa [show j - 1 + 1 = j by omega] at this
  · refine Ev.succ ?_
    simp only [impl_Net_walk.l0]
    exact Ev.neg (by omega) (Ev.now _)
  · intro i hi hp b hb
    refine Ev.succ ?_
    simp only [impl_Net_walk.l0]
    refine Ev.pos (by omega) (Ev.pos (by omega) (Ev.pos (by omega) (Ev.bind0 (knot_eq n E _) (Ev.pos (dec_t hp.1) ?_))))
    cases i with
    | zero => exact Ev.neg (by omega) (by rw [w64 (by omega)]; exact hb)
    | succ j =>
      refine Ev.pos (by omega) ?_
      have hj : wrap64 (((j + 1 : Nat) : Int) - 1) = (j : Int) := by rw [w64 (by omega)]; omega
      rw [hj]
      refine Ev.pos (by omega) (Ev.pos (by omega) (Ev.bind (ev_has n E _ _ hE) (Ev.pos (dec_t (hp.2 (by omega))) ?_)))
      rw [w64 (by omega)]; exact hb
  · intro i hi hp
    refine Ev.succ ?_
    simp only [impl_Net_walk.l0]
    refine Ev.pos (by omega) (Ev.pos (by omega) (Ev.pos (by omega) (Ev.bind0 (knot_eq n E _) ?_)))
    by_cases h1 : In n (rd w (i : Int))
    · refine Ev.pos (dec_t h1) ?_
      cases i with
      | zero => exact absurd ⟨h1, fun h => absurd h (by omega)⟩ hp
      | succ j =>
        refine Ev.pos (by omega) ?_
        have hj : wrap64 (((j + 1 : Nat) : Int) - 1) = (j : Int) := by rw [w64 (by omega)]; omega
        rw [hj]
        refine Ev.pos (by omega) (Ev.pos (by omega) (Ev.bind (ev_has n E _ _ hE) (Ev.neg ?_ (Ev.now _))))
        rw [dec_f (show ¬ Has E (rd w (j : Int)) (rd w ((j + 1 : Nat) : Int)) from fun h => hp ⟨h1, fun _ => h⟩)]; simp
    · exact Ev.neg (by rw [dec_f h1]; simp) (Ev.now _)
theorem z31 (w : List Int) (hl : w.length ≤ 1048576) : Ev (fun k => impl_different.f k w) (dec w.Nodup) := by
  simp only [impl_different.f]
  have := all_loop (L := fun k i => impl_different.l0 k w w w.length i) w.length (fun j => rd w (j : Int) ∉ w.take j) ?_ ?_ ?_ w.length 0 (by omega)
  · refine Ev.cast this (z0 ?_)
    rw [nodup_iff]
    exact ⟨fun h j hj => h j (Nat.zero_le _) hj, fun h j _ hj => h j hj⟩
  · refine Ev.succ ?_
    simp only [impl_different.l0]
    exact Ev.neg (by omega) (Ev.now _)
  · intro i hi hp b hb
    refine Ev.succ ?_
    simp only [impl_different.l0]
    refine Ev.pos (by omega) (Ev.pos (by omega) (Ev.pos (by omega) (Ev.pos (by omega) ?_)))
    rw [Int.toNat_natCast]
    refine Ev.bind (z29 _ _ (by simp; omega)) (Ev.neg (by rw [dec_f hp]; simp) ?_)
    rw [w64 (by omega)]; exact hb
  · intro i hi hp
    refine Ev.succ ?_
    simp only [impl_different.l0]
    refine Ev.pos (by omega) (Ev.pos (by omega) (Ev.pos (by omega) (Ev.pos (by omega) ?_)))
    rw [Int.toNat_natCast]
    exact Ev.bind (z29 _ _ (by simp; omega)) (Ev.pos (dec_t (Decidable.not_not.1 hp)) (Ev.now _))
theorem z32 (n : Int) (E : List T) (w : List Int) (hE : E.length ≤ 1048576) (hl : w.length ≤ 1048576) : Ev (fun k => impl_WayOk.f k n E w) (dec (OK n E ∧ IsWay n E w)) := by
  simp only [impl_WayOk.f]
  refine Ev.bind (z8 n E hE) ?_
  by_cases ok : OK n E
  · refine Ev.pos (dec_t ok) ?_
    by_cases h0 : (w.length : Int) > 0
    · refine Ev.pos h0 (Ev.bind (ev_walk n E w hE hl) ?_)
      by_cases h1 : (∀ v ∈ w, In n v) ∧ Walk (Has E) w
      · refine Ev.pos (dec_t h1) (Ev.bind (z31 w hl) (Ev.some_ (z0 ?_)))
        exact ⟨fun h => ⟨ok, fun e => by subst e; simp at h0, h1.1, h, h1.2⟩, fun h => h.2.nd⟩
      · exact Ev.neg (by rw [dec_f h1]; simp) (Ev.ff (fun h => h1 ⟨h.2.inn, h.2.walk⟩) (Ev.now _))
    · exact Ev.neg h0 (Ev.ff (fun h => h.2.ne (List.length_eq_zero_iff.1 (by omega))) (Ev.now _))
  · exact Ev.neg (by rw [dec_f ok]; simp) (Ev.ff (fun h => ok h.1) (Ev.now _))
theorem z33 (n : Int) (E : List T) (a b : Int) (w : List Int) (hE : E.length ≤ 1048576) (hw : WF E) (hl : w.length ≤ 1048576) : Ev (fun k => spec_l13Ends.f k n E a b w) (dec (Leads n E a b w)) := by
  simp only [spec_l13Ends.f]
  refine Ev.bind (z30 n E w hE hw hl) ?_
  by_cases h : OK n E ∧ IsWay n E w
  · have h0 : 0 < w.length := List.length_pos_iff.2 h.2.ne
    refine Ev.pos (dec_t h) (Ev.pos (by omega) ?_)
    by_cases ha : rd w 0 = a
    · refine Ev.pos ha ?_
      rw [w64 (by omega)]
      refine Ev.pos (by omega) (Ev.pos (by omega) (Ev.some_ (dec_of ?_)))
      rw [beq_iff_eq]
      exact ⟨fun hb => ⟨h.1, h.2, ha, hb⟩, fun k => k.2.2.2⟩
    · exact Ev.neg ha (Ev.ff (fun k => ha k.2.2.1) (Ev.now _))
  · exact Ev.neg (by rw [dec_f h]; simp) (Ev.ff (fun k => h ⟨k.1, k.2.1⟩) (Ev.now _))
theorem ev_leads (n : Int) (E : List T) (a b : Int) (w : List Int) (hE : E.length ≤ 1048576) (hl : w.length ≤ 1048576) : Ev (fun k => impl_leads.f k n E w a b) (dec (Leads n E a b w)) := by
  simp only [impl_leads.f]
  refine Ev.bind (z32 n E w hE hl) ?_
  by_cases h : OK n E ∧ IsWay n E w
  · have h0 : 0 < w.length := List.length_pos_iff.2 h.2.ne
    refine Ev.pos (dec_t h) (Ev.pos (by omega) ?_)
    by_cases ha : rd w 0 = a
    · refine Ev.pos ha ?_
      rw [w64 (by omega)]
      refine Ev.pos (by omega) (Ev.pos (by omega) (Ev.some_ (dec_of ?_)))
      rw [beq_iff_eq]
      exact ⟨fun hb => ⟨h.1, h.2, ha, hb⟩, fun k => k.2.2.2⟩
    · exact Ev.neg ha (Ev.ff (fun k => ha k.2.2.1) (Ev.now _))
  · exact Ev.neg (by rw [dec_f h]; simp) (Ev.ff (fun k => h ⟨k.1, k.2.1⟩) (Ev.now _))
theorem z34 (W : List (List Int)) (i : Nat) (h : i < W.length) : rd_L2 W (i : Int) = W[i] := by
  simp [rd_L2, List.getD_eq_getElem?_getD, List.getElem?_eq_getElem h]
theorem es_nodup : ∀ {w : List Int}, w.Nodup → (es w).Nodup
  | [], _ => by simp [es]
  | [_], _ => by simp [es]
  | a :: b :: l, h => by
    have h2 := (List.nodup_cons.1 h).2
    rw [es, List.nodup_cons]
    refine ⟨fun hm => ?_, es_nodup h2⟩
    obtain ⟨A, k, x, B, e, ht⟩ := mem_es hm
    have hk : k ∈ b :: l := by rw [e]; simp
    have hx : x ∈ b :: l := by rw [e]; simp
    rcases tie_inj ht with ⟨e1, _⟩ | ⟨_, e1⟩
    · exact (List.nodup_cons.1 h).1 (by rw [← e1]; exact hk)
    · exact (List.nodup_cons.1 h).1 (by rw [← e1]; exact hx)
def FlowOkP (n : Int) (E : List T) (a b : Int) (W : List (List Int)) : Prop := Two2 n E a b ∧ W.length ≤ 8 ∧ (∀ w ∈ W, Leads n E a b w) ∧ (W.flatMap es).Nodup
noncomputable def uses (W : List (List Int)) (t : T) : Nat := (W.filter (fun w => dec (t ∈ es w))).length
theorem z35 {w : List Int} {W : List (List Int)} {t : T} (h : t ∈ es w) : uses (w :: W) t = uses W t + 1 := by
  unfold uses
  rw [List.filter_cons_of_pos (by rw [dec_t h])]
  rfl
theorem z36 {w : List Int} {W : List (List Int)} {t : T} (h : t ∉ es w) : uses (w :: W) t = uses W t := by
  unfold uses
  rw [List.filter_cons_of_neg (by rw [dec_f h]; simp)]
theorem uses_pos {W : List (List Int)} {t : T} : 0 < uses W t ↔ ∃ w ∈ W, t ∈ es w := by
  unfold uses
  rw [List.length_pos_iff_exists_mem]
  constructor
  · rintro ⟨w, hw⟩
    exact ⟨w, (List.mem_filter.1 hw).1, dec_iff.1 (List.mem_filter.1 hw).2⟩
  · rintro ⟨w, hw, ht⟩
    exact ⟨w, List.mem_filter.2 ⟨hw, dec_t ht⟩⟩
theorem z37 : ∀ {W : List (List Int)}, (∀ w ∈ W, w.Nodup) → ((W.flatMap es).Nodup ↔ ∀ t, uses W t ≤ 1)
  | [], _ => by simp [uses]
  | w :: W, h => by
    have ih := z37 (W := W) (fun w hw => h w (by simp [hw]))
    rw [List.flatMap_cons, List.nodup_append]
    constructor
    · rintro ⟨_, h2, h3⟩ t
      by_cases ht : t ∈ es w
      · rw [z35 ht]
        by_cases hu : 0 < uses W t
        · obtain ⟨w', hw', ht'⟩ := uses_pos.1 hu
          exact absurd rfl (h3 t ht t (List.mem_flatMap.2 ⟨w', hw', ht'⟩))
        · omega
      · rw [z36 ht]
        exact ih.1 h2 t
    · intro hu
      refine ⟨es_nodup (h w (by simp)), ih.2 (fun t => ?_), fun t ht t' ht' e => ?_⟩
      · have := hu t
        by_cases ht : t ∈ es w
        · rw [z35 ht] at this; omega
        · rwa [z36 ht] at this
      · subst e
        have := hu t
        rw [z35 ht] at this
        obtain ⟨w', hw', ht'⟩ := List.mem_flatMap.1 ht'
        have := uses_pos.2 ⟨w', hw', ht'⟩
        omega
theorem Leads.es_mem {n : Int} {E : List T} {a b : Int} {w : List Int} (h : Leads n E a b w) {t : T} (ht : t ∈ es w) : t ∈ E := walk_es.1 h.2.1.walk t ht
theorem flowOk_iff {n : Int} {E : List T} {a b : Int} {W : List (List Int)} : FlowOkP n E a b W ↔ Two2 n E a b ∧ W.length ≤ 8 ∧ (∀ w ∈ W, Leads n E a b w) ∧ ∀ t ∈ E, uses W t ≤ 1 := by
  unfold FlowOkP
  constructor
  · rintro ⟨h1, h2, h3, h4⟩
    exact ⟨h1, h2, h3, fun t _ => (z37 (fun w hw => (h3 w hw).2.1.nd)).1 h4 t⟩
  · rintro ⟨h1, h2, h3, h4⟩
    refine ⟨h1, h2, h3, (z37 (fun w hw => (h3 w hw).2.1.nd)).2 (fun t => ?_)⟩
    by_cases ht : 0 < uses W t
    · obtain ⟨w, hw, hm⟩ := uses_pos.1 ht
      exact h4 t ((h3 w hw).es_mem hm)
    · omega
theorem z38 (w : List Int) (t : T) (hl : w.length ≤ 1048576) : ∀ (d i : Nat), 1 ≤ i → i + d = w.length → Ev (fun k => spec_l21Uses.l0 k w i t.f0 t.f1) (dec (t ∈ es (w.drop (i - 1))))
  | 0, i, h1, h => by
    refine Ev.succ ?_
    simp only [spec_l21Uses.l0]
    refine Ev.neg (by omega) (Ev.ff (fun hm => ?_) (Ev.now _))
    have : (w.drop (i - 1)).length = 1 := by rw [List.length_drop]; omega
    obtain ⟨x, hx⟩ := List.length_eq_one_iff.1 this
    rw [hx] at hm
    simp [es] at hm
  | d + 1, i, h1, h => by
    obtain ⟨j, rfl⟩ : ∃ j, i = j + 1 := ⟨i - 1, by omega⟩
    have ih := z38 w t hl d (j + 1 + 1) (by omega) (by omega)
    refine Ev.succ ?_
    simp only [spec_l21Uses.l0]
    rw [w64 (x := ((j + 1 : Nat) : Int) - 1) (by omega), show ((j + 1 : Nat) : Int) - 1 = (j : Int) by omega]
    refine Ev.pos (by omega) (Ev.pos (by omega) (Ev.pos (by omega) (Ev.pos (by omega) (Ev.bind0 (l1Tie _ _) ?_))))
    rw [z18 w j (by omega), z18 w (j + 1) (by omega)]
    have e : w.drop (j + 1 - 1) = w[j] :: w[j + 1] :: w.drop (j + 1 + 1) := by
      rw [show j + 1 - 1 = j by omega, List.drop_eq_getElem_cons (by omega : j < w.length), List.drop_eq_getElem_cons (by omega : j + 1 < w.length)]
    rw [e, es]
    by_cases hh : tie w[j] w[j + 1] = t
    · refine Ev.pos ?_ (Ev.tt (by rw [hh]; simp) (Ev.now _))
      rw [hh]; simp
    · refine Ev.neg ?_ ?_
      · intro k
        simp only [Bool.and_eq_true, beq_iff_eq] at k
        exact hh (T.ext k.1 k.2)
      · rw [w64 (by omega), show ((j + 1 : Nat) : Int) + 1 = ((j + 1 + 1 : Nat) : Int) by omega]
        refine Ev.cast ih (z0 ?_)
        rw [show j + 1 + 1 - 1 = j + 1 by omega, List.drop_eq_getElem_cons (by omega : j + 1 < w.length)]
        simp [Ne.symm hh]
theorem z39 (w : List Int) (t : T) (hl : w.length ≤ 1048576) : Ev (fun k => spec_l21Uses.f k w t.f0 t.f1) (dec (t ∈ es w)) := by
  simp only [spec_l21Uses.f]
  by_cases h : w.length = 0
  · obtain rfl := List.length_eq_zero_iff.1 h
    refine Ev.succ ?_
    simp only [spec_l21Uses.l0]
    exact Ev.neg (by simp) (Ev.ff (by simp [es]) (Ev.now _))
  · exact Ev.cast (z38 w t hl (w.length - 1) 1 (by omega) (by omega)) (by simp)
theorem z40 {n : Int} {E : List T} {W : List (List Int)} (hW : W.length ≤ 8) (hr : ∀ w ∈ W, w.length ≤ 1048576) (hE : E.length ≤ 64) (x : Nat) (hx : x < E.length) {r : Bool} (hnext : uses W E[x] ≤ 1 → Ev (fun k => spec_FlowOk.l1 k W ((x + 1 : Nat) : Int) n E) r) (hbad : 1 < uses W E[x] → r = false) :
    ∀ (d j u : Nat), j + d = W.length → u + uses (W.drop j) E[x] = uses W E[x] → Ev (fun k => spec_FlowOk.l2 k W x u j n E) r
  | 0, j, u, h, hu => by
    refine Ev.succ ?_
    simp only [spec_FlowOk.l2]
    rw [List.drop_of_length_le (by omega)] at hu
    simp only [uses, List.filter_nil, List.length_nil, Nat.add_zero] at hu
    refine Ev.neg (by omega) ?_
    by_cases h1 : (u : Int) > 1
    · refine Ev.pos h1 (Ev.some_ (hbad ?_).symm)
      unfold uses; omega
    · refine Ev.neg h1 ?_
      rw [w64 (by omega)]
      exact hnext (by unfold uses; omega)
  | d + 1, j, u, h, hu => by
    have hj : j < W.length := by omega
    have hul : uses W E[x] ≤ W.length := List.length_filter_le _ _
    refine Ev.succ ?_
    simp only [spec_FlowOk.l2]
    rw [z34 W j hj, rd_T_nat E x hx]
    refine Ev.pos (by omega) (Ev.pos (by omega) (Ev.pos (by omega) (Ev.pos (by omega) (Ev.bind (z39 W[j] E[x] (hr _ (List.getElem_mem hj))) ?_))))
    rw [List.drop_eq_getElem_cons hj] at hu
    by_cases ht : E[x] ∈ es W[j]
    · rw [z35 ht] at hu
      refine Ev.pos (dec_t ht) ?_
      rw [w64 (by omega), w64 (by omega)]
      exact z40 hW hr hE x hx hnext hbad d (j + 1) (u + 1) (by omega) (by omega)
    · rw [z36 ht] at hu
      refine Ev.neg (by rw [dec_f ht]; simp) ?_
      rw [w64 (by omega)]
      exact z40 hW hr hE x hx hnext hbad d (j + 1) u (by omega) (by omega)
theorem z41 {n : Int} {E : List T} {W : List (List Int)} (hW : W.length ≤ 8) (hr : ∀ w ∈ W, w.length ≤ 1048576) (hE : E.length ≤ 64) : ∀ (d x : Nat), x + d = E.length → Ev (fun k => spec_FlowOk.l1 k W x n E) (dec (∀ t ∈ E.drop x, uses W t ≤ 1))
  | 0, x, h => by
    refine Ev.succ ?_
    simp only [spec_FlowOk.l1]
    refine Ev.neg (by omega) (Ev.tt (fun t ht => ?_) (Ev.now _))
    rw [List.drop_of_length_le (by omega)] at ht
    simp at ht
  | d + 1, x, h => by
    have hx : x < E.length := by omega
    have ih := z41 (n := n) hW hr hE d (x + 1) (by omega)
    refine Ev.succ ?_
    simp only [spec_FlowOk.l1]
    refine Ev.pos (by omega) (z40 hW hr hE x hx (fun hu => ?_) (fun hu => ?_) W.length 0 0 (by omega) (by simp))
    · refine Ev.cast ih (z0 ?_)
      rw [List.drop_eq_getElem_cons hx, List.forall_mem_cons]
      exact ⟨fun k => ⟨hu, k⟩, fun k => k.2⟩
    · refine dec_f (fun k => ?_)
      have := k E[x] (by rw [List.drop_eq_getElem_cons hx]; exact List.mem_cons_self)
      omega
theorem z42 {n : Int} {E : List T} {a b : Int} {W : List (List Int)} (hW : W.length ≤ 8) (hr : ∀ w ∈ W, w.length ≤ 1048576) (hE : E.length ≤ 64) (hw : WF E) : ∀ (d x : Nat), x + d = W.length →
    Ev (fun k => spec_FlowOk.l0 k a b W x n E) (dec ((∀ w ∈ W.drop x, Leads n E a b w) ∧ ∀ t ∈ E, uses W t ≤ 1))
  | 0, x, h => by
    refine Ev.succ ?_
    simp only [spec_FlowOk.l0]
    refine Ev.neg (by omega) (Ev.cast (z41 hW hr hE E.length 0 (by omega)) (z0 ?_))
    rw [List.drop_of_length_le (by omega : W.length ≤ x)]
    simp
  | d + 1, x, h => by
    have hx : x < W.length := by omega
    have ih := z42 (n := n) (E := E) (a := a) (b := b) hW hr hE hw d (x + 1) (by omega)
    refine Ev.succ ?_
    simp only [spec_FlowOk.l0]
    rw [z34 W x hx]
    refine Ev.pos (by omega) (Ev.pos (by omega) (Ev.bind (z33 n E a b W[x] (by omega) hw (hr _ (List.getElem_mem hx))) ?_))
    by_cases hl : Leads n E a b W[x]
    · refine Ev.pos (dec_t hl) ?_
      rw [w64 (by omega)]
      refine Ev.cast ih (z0 ?_)
      rw [List.drop_eq_getElem_cons hx, List.forall_mem_cons]
      exact ⟨fun k => ⟨⟨hl, k.1⟩, k.2⟩, fun k => ⟨k.1.2, k.2⟩⟩
    · refine Ev.neg (by rw [dec_f hl]; simp) (Ev.ff (fun k => hl (k.1 _ ?_)) (Ev.now _))
      rw [List.drop_eq_getElem_cons hx]; exact List.mem_cons_self
theorem z43 (n : Int) (E : List T) (a b : Int) (W : List (List Int)) (hE : E.length ≤ 1048576) (hw : WF E) (hW : W.length ≤ 1048576) (hr : ∀ w ∈ W, w.length ≤ 1048576) : Ev (fun k => spec_FlowOk.f k n E a b W) (dec (FlowOkP n E a b W)) := by
  simp only [spec_FlowOk.f]
  have bad : ¬ FlowOkP n E a b W → Ev (fun k => spec_FlowOk.j0 k a b W true n E) (dec (FlowOkP n E a b W)) := fun hb => by
    refine Ev.succ ?_
    simp only [spec_FlowOk.j0]
    exact Ev.pos (by trivial) (Ev.ff hb (Ev.now _))
  refine Ev.bind (z10 n E a hE hw) ?_
  by_cases ha : OK n E ∧ In n a
  · refine Ev.pos (dec_t ha) (Ev.bind (z10 n E b hE hw) ?_)
    by_cases hb : OK n E ∧ In n b
    · refine Ev.pos (dec_t hb) ?_
      by_cases hab : a = b
      · exact Ev.pos hab (bad (fun k => k.1.2.2.2 hab))
      · refine Ev.neg hab ?_
        by_cases h8 : (W.length : Int) > 8
        · rw [decide_eq_true h8]
          exact bad (fun k => by have := k.2.1; omega)
        · rw [decide_eq_false h8]
          refine Ev.succ ?_
          simp only [spec_FlowOk.j0]
          refine Ev.neg (by simp) (Ev.cast (z42 (by omega) hr ha.1.length hw W.length 0 (by omega)) (z0 ?_))
          rw [flowOk_iff, List.drop_zero]
          exact ⟨fun k => ⟨⟨ha.1, ha.2, hb.2, hab⟩, by omega, k.1, k.2⟩, fun k => ⟨k.2.2.1, k.2.2.2⟩⟩
    · exact Ev.neg (by rw [dec_f hb]; simp) (bad (fun k => hb ⟨k.1.1, k.1.2.2.1⟩))
  · exact Ev.neg (by rw [dec_f ha]; simp) (bad (fun k => ha ⟨k.1.1, k.1.2.1⟩))
def Holds (s : Int) (L : List T) : Prop := ∀ a b, mpIn a b → mpBit s a b = dec ((⟨a, b⟩ : T) ∈ L)
theorem z44 : Holds 0 [] := fun a b _ => by rw [mpBit_zero, dec_f (by simp)]
theorem Holds.add {s : Int} {L : List T} (h : Holds s L) {t : T} (ht : mpIn t.f0 t.f1) : Holds (mpSet s t.f0 t.f1) (L ++ [t]) := fun a b hab => by
  rw [mpBit_set ht hab, h a b hab]
  refine dec_of ?_
  rw [Bool.or_eq_true, dec_iff, decide_eq_true_eq, List.mem_append, List.mem_singleton]
  constructor
  · rintro (h1 | ⟨rfl, rfl⟩)
    · exact Or.inl h1
    · exact Or.inr rfl
  · rintro (h1 | h1)
    · exact Or.inl h1
    · exact Or.inr ⟨by rw [← h1], by rw [← h1]⟩
theorem mpIn_tie {n : Int} {E : List T} (h : OK n E) {a b : Int} (ha : In n a) (hb : In n b) : mpIn (tie a b).f0 (tie a b).f1 := by
  have := h.n8
  unfold In at ha hb
  unfold mpIn tie
  split <;> simp <;> omega
theorem z45 {n : Int} {E : List T} (hO : OK n E) {a b : Int} {W : List (List Int)} {w : List Int} (hin : ∀ v ∈ w, In n v) (hl : w.length ≤ 1048576) (x : Nat) (hx : x < 8) {r : Bool} :
    ∀ (d i : Nat) (s : Int) (L : List T), 1 ≤ i → i + d = w.length → Holds s L →
      (¬ (L ++ es (w.drop (i - 1))).Nodup → L.Nodup → r = false) → L.Nodup →
      (∀ s', Holds s' (L ++ es (w.drop (i - 1))) → (L ++ es (w.drop (i - 1))).Nodup → Ev (fun k => impl_FlowOk.l0 k a b W W.length ((x + 1 : Nat) : Int) n E s') r) →
      Ev (fun k => impl_FlowOk.l1 k a b w i W W.length x n E s) r
  | 0, i, s, L, h1, h, hs, _, hL, hnext => by
    refine Ev.succ ?_
    simp only [impl_FlowOk.l1]
    have e : es (w.drop (i - 1)) = [] := by
      have : (w.drop (i - 1)).length = 1 := by rw [List.length_drop]; omega
      obtain ⟨y, hy⟩ := List.length_eq_one_iff.1 this
      rw [hy]; rfl
    rw [e, List.append_nil] at hnext
    refine Ev.neg (by omega) ?_
    rw [w64 (by omega), show (x : Int) + 1 = ((x + 1 : Nat) : Int) by omega]
    exact hnext s hs hL
  | d + 1, i, s, L, h1, h, hs, hbad, hL, hnext => by
    obtain ⟨j, rfl⟩ : ∃ j, i = j + 1 := ⟨i - 1, by omega⟩
    have e : w.drop (j + 1 - 1) = w[j] :: w[j + 1] :: w.drop (j + 1 + 1) := by
      rw [show j + 1 - 1 = j by omega, List.drop_eq_getElem_cons (by omega : j < w.length), List.drop_eq_getElem_cons (by omega : j + 1 < w.length)]
    have e2 : es (w.drop (j + 1 - 1)) = tie w[j] w[j + 1] :: es (w.drop (j + 1 + 1 - 1)) := by
      rw [e, es, show j + 1 + 1 - 1 = j + 1 by omega, List.drop_eq_getElem_cons (by omega : j + 1 < w.length)]
    rw [e2] at hbad hnext
    have hm := mpIn_tie hO (hin w[j] (List.getElem_mem _)) (hin w[j + 1] (List.getElem_mem _))
    refine Ev.succ ?_
    simp only [impl_FlowOk.l1]
    rw [w64 (x := ((j + 1 : Nat) : Int) - 1) (by omega), show ((j + 1 : Nat) : Int) - 1 = (j : Int) by omega]
    refine Ev.pos (by omega) (Ev.pos (by omega) (Ev.pos (by omega) (Ev.pos (by omega) (Ev.bind0 (z27 _ _) ?_))))
    rw [z18 w j (by omega), z18 w (j + 1) (by omega)]
    have hh : impl_mapHas.f s (tie w[j] w[j + 1]).f0 (tie w[j] w[j + 1]).f1 = some (dec (tie w[j] w[j + 1] ∈ L), s) := by
      unfold impl_mapHas.f
      rw [if_pos hm, hs _ _ hm]
    refine Ev.bind0 hh ?_
    by_cases ht : tie w[j] w[j + 1] ∈ L
    · refine Ev.pos (dec_t ht) (Ev.some_ (hbad (fun k => ?_) hL).symm)
      rw [List.nodup_append] at k
      exact k.2.2 _ ht _ (by simp) rfl
    · refine Ev.neg (by rw [dec_f ht]; simp) (Ev.bind0 (show impl_mapAdd.f s (tie w[j] w[j + 1]).f0 (tie w[j] w[j + 1]).f1 = some _ from by unfold impl_mapAdd.f; rw [if_pos hm]) ?_)
      rw [w64 (by omega), show ((j + 1 : Nat) : Int) + 1 = ((j + 1 + 1 : Nat) : Int) by omega]
      refine z45 hO hin hl x hx d (j + 1 + 1) _ (L ++ [tie w[j] w[j + 1]]) (by omega) (by omega) (hs.add hm) (fun k _ => hbad (fun k2 => k ?_) hL) ?_ (fun s' h3 h4 => hnext s' ?_ ?_)
      · simpa using k2
      · rw [List.nodup_append]
        refine ⟨hL, by simp, fun y hy z hz e3 => ?_⟩
        rw [List.mem_singleton] at hz
        subst hz; subst e3
        exact ht hy
      · simpa using h3
      · simpa using h4
theorem z46 {n : Int} {E : List T} (hO : OK n E) {a b : Int} (W : List (List Int)) (hr : ∀ w ∈ W, w.length ≤ 1048576) (h8 : W.length ≤ 8) :
    ∀ (d x : Nat) (s : Int) (L : List T), x + d = W.length → Holds s L → L.Nodup →
      Ev (fun k => impl_FlowOk.l0 k a b W W.length x n E s) (dec ((∀ w ∈ W.drop x, Leads n E a b w) ∧ (L ++ (W.drop x).flatMap es).Nodup))
  | 0, x, s, L, h, _, hL => by
    refine Ev.succ ?_
    simp only [impl_FlowOk.l0]
    rw [List.drop_of_length_le (by omega)]
    exact Ev.neg (by omega) (Ev.tt (by simpa using hL) (Ev.now _))
  | d + 1, x, s, L, h, hs, hL => by
    have hx : x < W.length := by omega
    refine Ev.succ ?_
    simp only [impl_FlowOk.l0]
    rw [z34 W x hx, List.drop_eq_getElem_cons hx]
    have hl := hr _ (List.getElem_mem hx)
    refine Ev.pos (by omega) (Ev.pos (by omega) (Ev.pos (by omega) (Ev.bind (ev_leads n E a b W[x] (by have := hO.length; omega) hl) ?_)))
    by_cases hw : Leads n E a b W[x]
    · refine Ev.pos (dec_t hw) ?_
      have hp := hw.pos
      have ih := fun s' => z46 hO W hr h8 d (x + 1) s' (L ++ es W[x]) (by omega) (a := a) (b := b)
      refine z45 hO hw.2.1.inn hl x (by omega) (W[x].length - 1) 1 s L (by omega) (by omega) hs (fun k _ => dec_f (fun k2 => k ?_)) hL (fun s' h3 h4 => ?_)
      · have := k2.2
        rw [List.flatMap_cons, ← List.append_assoc, List.nodup_append] at this
        simpa using this.1
      · simp only [Nat.sub_self, List.drop_zero] at h3 h4
        refine Ev.cast (ih s' h3 h4) (z0 ?_)
        rw [List.flatMap_cons, List.append_assoc, List.forall_mem_cons]
        exact ⟨fun k => ⟨⟨hw, k.1⟩, k.2⟩, fun k => ⟨k.1.2, k.2⟩⟩
    · exact Ev.neg (by rw [dec_f hw]; simp) (Ev.ff (fun k => hw (k.1 _ List.mem_cons_self)) (Ev.now _))
theorem z47 (n : Int) (E : List T) (a b : Int) (W : List (List Int)) (hE : E.length ≤ 1048576) (hr : ∀ w ∈ W, w.length ≤ 1048576) : Ev (fun k => impl_FlowOk.f k n E a b W) (dec (FlowOkP n E a b W)) := by
  simp only [impl_FlowOk.f]
  have bad : ¬ FlowOkP n E a b W → Ev (fun k => impl_FlowOk.j0 k a b W true n E) (dec (FlowOkP n E a b W)) := fun hb => by
    refine Ev.succ ?_
    simp only [impl_FlowOk.j0]
    exact Ev.pos (by trivial) (Ev.ff hb (Ev.now _))
  refine Ev.bind (z24 n E a b hE) ?_
  by_cases h2 : Two2 n E a b
  · refine Ev.pos (dec_t h2) ?_
    by_cases h8 : (W.length : Int) > 8
    · rw [decide_eq_true h8]
      exact bad (fun k => by have := k.2.1; omega)
    · rw [decide_eq_false h8]
      refine Ev.succ ?_
      simp only [impl_FlowOk.j0]
      refine Ev.neg (by simp) (Ev.bind0 (show impl_mapNew.f = some 0 from rfl) (Ev.cast (z46 h2.1 W hr (by omega) W.length 0 0 [] (by omega) z44 List.nodup_nil) (z0 ?_)))
      rw [List.drop_zero, List.nil_append]
      exact ⟨fun k => ⟨h2, by omega, k.1, k.2⟩, fun k => ⟨k.2.2.1, k.2.2.2⟩⟩
  · exact Ev.neg (by rw [dec_f h2]; simp) (bad (fun k => h2 k.1))
theorem rd_head {w : List Int} (h : w ≠ []) : w.head? = some (rd w 0) := by
  cases w with
  | nil => exact absurd rfl h
  | cons a r => rfl
theorem rd_last {w : List Int} (h : w ≠ []) : w.getLast? = some (rd w ((w.length : Int) - 1)) := by
  have hp : 0 < w.length := List.length_pos_iff.2 h
  rw [show ((w.length : Int) - 1) = ((w.length - 1 : Nat) : Int) by omega, z18 w (w.length - 1) (by omega), List.getLast?_eq_getElem?, List.getElem?_eq_getElem (by omega)]
theorem Path.inn {n : Int} {E : List T} (h : OK n E) {a b : Int} (ha : In n a) {w : List Int} (p : Path E a b w) {x : Int} (hx : x ∈ w) : In n x := (p.conn_mem hx).inNet h ha
theorem z48 {n : Int} {E : List T} {a b : Int} {w : List Int} (h : OK n E) (ha : In n a) : Leads n E a b w ↔ Path E a b w := by
  constructor
  · rintro ⟨_, ⟨h0, _, h2, h3⟩, h4, h5⟩
    exact ⟨h2, h3, by rw [rd_head h0, h4], by rw [rd_last h0, h5]⟩
  · intro p
    exact ⟨h, ⟨p.ne, fun x hx => p.inn h ha hx, p.nd, p.walk⟩, by have := rd_head p.ne; rw [p.hd] at this; exact (Option.some.inj this).symm, by have := rd_last p.ne; rw [p.lst] at this; exact (Option.some.inj this).symm⟩
theorem Leads.path {n : Int} {E : List T} {a b : Int} {w : List Int} (h : Leads n E a b w) : Path E a b w := by
  obtain ⟨_, ⟨h0, _, h2, h3⟩, h4, h5⟩ := h
  exact ⟨h2, h3, by rw [rd_head h0, h4], by rw [rd_last h0, h5]⟩
theorem Path.ties {E : List T} {a b : Int} {w : List Int} (p : Path E a b w) (hab : a ≠ b) : (∃ s ∈ es w, On s a) ∧ ∃ t ∈ es w, On t b := by
  have fst : ∀ {a b : Int} {w : List Int}, Path E a b w → a ≠ b → ∃ s ∈ es w, On s a := fun {a b w} p hab => by
    obtain ⟨r, rfl⟩ := p.cons_eq
    cases r with
    | nil => have := p.lst; simp at this; exact absurd this hab
    | cons c r => exact ⟨tie a c, by simp [es], on_tie.2 (Or.inl rfl)⟩
  refine ⟨fst p hab, ?_⟩
  obtain ⟨t, h1, h2⟩ := fst p.rev hab.symm
  exact ⟨t, (z23 _ _).1 h1, h2⟩
def sm (n : Int) (f : Int → Int) : Int := ((ks n).map f).sum
theorem suml_add (f g : Int → Int) : ∀ l : List Int, (l.map (fun x => f x + g x)).sum = (l.map f).sum + (l.map g).sum
  | [] => rfl
  | a :: l => by simp only [List.map_cons, List.sum_cons, suml_add f g l]; omega
def cs (n : Int) (R : Int → Int → Int) (S : Int → Bool) : Int := sm n (fun u => sm n (fun v => if S u = true ∧ S v = false then R u v else 0))
def cap (E : List T) (u v : Int) : Int := if tie u v ∈ E then 1 else 0
def cross (n : Int) (E : List T) (S : Int → Bool) : Int := cs n (cap E) S
structure IsFlow (n : Int) (E : List T) (a b c : Int) : Prop where
  some_ : ∃ S : Int → Bool, S a = true ∧ S b = false ∧ cross n E S = c
  least : ∀ S : Int → Bool, S a = true → S b = false → c ≤ cross n E S
theorem Path.leads {n : Int} {E : List T} (h : OK n E) {a b : Int} (ha : In n a) {w : List Int} (p : Path E a b w) : Leads n E a b w := (z48 h ha).2 p
theorem Leads.rev {n : Int} {E : List T} {a b : Int} {w : List Int} (hb : In n b) (h : Leads n E a b w) : Leads n E b a w.reverse := (Path.rev h.path).leads h.1 hb
theorem uses_rev (W : List (List Int)) (t : T) : uses (W.reverse.map List.reverse) t = uses W t := by
  unfold uses
  rw [List.filter_map, List.length_map, List.filter_reverse, List.length_reverse]
  congr 1
  refine List.filter_congr (fun w _ => ?_)
  exact z0 (z23 w t)
theorem FlowOkP.rev {n : Int} {E : List T} {a b : Int} {W : List (List Int)} (h : FlowOkP n E a b W) : FlowOkP n E b a (W.reverse.map List.reverse) := by
  obtain ⟨h1, h2, h3, h4⟩ := flowOk_iff.1 h
  refine flowOk_iff.2 ⟨⟨h1.1, h1.2.2.1, h1.2.1, fun e => h1.2.2.2 e.symm⟩, by simpa using h2, fun w hw => ?_, fun t ht => by rw [uses_rev]; exact h4 t ht⟩
  obtain ⟨w', hw', rfl⟩ := List.mem_map.1 hw
  exact (h3 w' (List.mem_reverse.1 hw')).rev h1.2.2.1
theorem uses_sub {W V : List (List Int)} (s : V.Sublist W) (t : T) : uses V t ≤ uses W t := (s.filter _).length_le
theorem FlowOkP.sub {n : Int} {E : List T} {a b : Int} {W V : List (List Int)} (h : FlowOkP n E a b W) (s : V.Sublist W) : FlowOkP n E a b V := by
  obtain ⟨h1, h2, h3, h4⟩ := flowOk_iff.1 h
  exact flowOk_iff.2 ⟨h1, Nat.le_trans s.length_le h2, fun w hw => h3 w (s.subset hw), fun t ht => Nat.le_trans (uses_sub s t) (h4 t ht)⟩
theorem sub_less {α : Type} (W : List α) (k : Nat) : (W.take k ++ W.drop (k + 1)).Sublist W := by
  have h : (W.take k ++ W.drop k).Sublist W := by rw [List.take_append_drop]; exact List.Sublist.refl _
  refine List.Sublist.trans (List.Sublist.append_left ?_ _) h
  rw [show W.drop (k + 1) = (W.drop k).drop 1 by rw [List.drop_drop]]
  exact List.drop_sublist _ _
theorem Leads.some_tie {n : Int} {E : List T} {a b : Int} {w : List Int} (h : Leads n E a b w) (hab : a ≠ b) : ∃ t, t ∈ es w := by
  obtain ⟨⟨t, ht, _⟩, _⟩ := (Leads.path h).ties hab
  exact ⟨t, ht⟩
theorem z49 {n : Int} {E : List T} {a b : Int} {W : List (List Int)} (h : FlowOkP n E a b W) {w : List Int} (hw : w ∈ W) : ¬ FlowOkP n E a b (W ++ [w]) := fun k => by
  obtain ⟨h1, _, h3, _⟩ := flowOk_iff.1 h
  obtain ⟨t, ht⟩ := (h3 w hw).some_tie h1.2.2.2
  have h4 := (flowOk_iff.1 k).2.2.2 t ((h3 w hw).es_mem ht)
  have e : uses (W ++ [w]) t = uses W t + 1 := by
    unfold uses
    rw [List.filter_append, List.length_append, List.filter_cons_of_pos (by rw [dec_t ht])]
    rfl
  have := uses_pos.2 ⟨w, hw, ht⟩
  omega
theorem l1Copy (n : Int) (E : List T) (hE : E.length ≤ 1048576) : spec_l1Copy.f n E = some (n, E) := by
  unfold spec_l1Copy.f
  simp only [Option.bind_some, List.nil_append, List.length_nil]
  rw [if_pos (by omega)]
theorem z50 {x y : Int} (hx : 0 ≤ x ∧ x < 4611686018427387904) (hy : 0 ≤ y ∧ y < 4611686018427387904) : 0 ≤ Go.bits .xor .i64 x y := by
  have hlt : x.toNat ^^^ y.toNat < 2 ^ 62 := Nat.xor_lt_two_pow (by omega) (by omega)
  have e : (BitVec.ofInt 64 x ^^^ BitVec.ofInt 64 y).toNat = x.toNat ^^^ y.toNat := by
    rw [BitVec.toNat_xor, BitVec.toNat_ofInt, BitVec.toNat_ofInt]
    congr 1 <;> omega
  unfold Go.bits
  show 0 ≤ Go.IntKind.wrap .i64 ((BitVec.ofInt 64 x ^^^ BitVec.ofInt 64 y).toNat : Int)
  rw [e]
  rw [i64_w, w64 (by omega)]
  omega
def Bytes (s : List Int) : Prop := s.length ≤ 2000 ∧ ∀ x ∈ s, 0 ≤ x ∧ x ≤ 255
theorem Bytes.rd {s : List Int} (h : Bytes s) {i : Int} (h0 : 0 ≤ i) (h1 : i < s.length) : 0 ≤ rd s i ∧ rd s i ≤ 255 := by
  rw [rd_i s i h0 h1]
  exact h.2 _ (List.getElem_mem _)
theorem ev_pick {s : List Int} (h : Bytes s) {p : Int} (hp : 0 ≤ p ∧ p ≤ 1000000) (m : Int) (hm : m ≤ 1000000000) : ∃ v, Ev (fun k => spec_l6Rd_pick.f k s p m) (v, p + 1) ∧ (1 ≤ m → 0 ≤ v ∧ v < m) ∧ 0 ≤ v ∧ (v < m ∨ v = 0) := by
  by_cases hb : m < 1 ∨ s.length = 0
  · refine ⟨0, ?_, fun _ => by omega, by omega, Or.inr rfl⟩
    simp only [spec_l6Rd_pick.f]
    rw [w64 (x := p + 1) (by omega)]
    have j : Ev (fun k => spec_l6Rd_pick.j0 k m true s (p + 1)) (0, p + 1) := by
      refine Ev.succ ?_
      simp only [spec_l6Rd_pick.j0]
      exact Ev.pos trivial (Ev.now _)
    by_cases h1 : m < 1
    · exact Ev.pos h1 j
    · refine Ev.neg h1 ?_
      have e : ((s.length : Int) == 0) = true := by rw [beq_iff_eq]; omega
      rw [e]; exact j
  · have h1 : ¬ m < 1 := fun k => hb (Or.inl k)
    have h2 : ¬ s.length = 0 := fun k => hb (Or.inr k)
    have e : ((s.length : Int) == 0) = false := by rw [beq_eq_false_iff_ne]; omega
    have hl := h.1
    by_cases hk : p < s.length
    · have hr := h.rd hp.1 hk
      have hv := Int.tmod_nonneg m hr.1
      have hv' := Int.tmod_lt_of_pos (rd s p) (show 0 < m by omega)
      refine ⟨Int.tmod (rd s p) m, ?_, fun _ => ⟨hv, hv'⟩, hv, Or.inl hv'⟩
      simp only [spec_l6Rd_pick.f]
      rw [w64 (x := p + 1) (by omega), e]
      refine Ev.neg h1 (Ev.succ ?_)
      simp only [spec_l6Rd_pick.j0]
      rw [show p + 1 - 1 = p by omega, w64 (x := p) (by omega), w64 (x := rd s p) (by omega)]
      exact Ev.neg (by simp) (Ev.pos hk (Ev.pos hp.1 (Ev.neg (by omega) (Ev.now _))))
    · have hL : (0 : Int) < s.length := by omega
      have a0 := Int.tmod_nonneg (s.length : Int) hp.1
      have a1 := Int.tmod_lt_of_pos p hL
      have b0 := Int.tmod_nonneg (s.length : Int) (show 0 ≤ p * 7 + 3 by omega)
      have b1 := Int.tmod_lt_of_pos (p * 7 + 3) hL
      have ra := h.rd a0 a1
      have rb := h.rd b0 b1
      have d0 := Int.tdiv_nonneg hp.1 (show 0 ≤ (s.length : Int) by omega)
      have d1 : Int.tdiv p s.length ≤ p := Int.tdiv_le_self _ hp.1
      generalize hA : rd s (Int.tmod p s.length) = A at ra
      generalize hB : rd s (Int.tmod (p * 7 + 3) s.length) = B at rb
      generalize hD : Int.tdiv p s.length = D at d0 d1
      have q0 := Int.tdiv_nonneg (show 0 ≤ A * 131 + B * 1117 + p * 29 + D * 53 by omega) (show (0 : Int) ≤ 64 by omega)
      have q1 : Int.tdiv (A * 131 + B * 1117 + p * 29 + D * 53) 64 ≤ A * 131 + B * 1117 + p * 29 + D * 53 := Int.tdiv_le_self _ (by omega)
      have hx := z50 (x := A * 131 + B * 1117 + p * 29 + D * 53) (y := Int.tdiv (A * 131 + B * 1117 + p * 29 + D * 53) 64) (by omega) (by omega)
      have hv := Int.tmod_nonneg m hx
      have hv' := Int.tmod_lt_of_pos (Go.bits .xor .i64 (A * 131 + B * 1117 + p * 29 + D * 53) (Int.tdiv (A * 131 + B * 1117 + p * 29 + D * 53) 64)) (show 0 < m by omega)
      refine ⟨_, ?_, fun _ => ⟨hv, hv'⟩, hv, Or.inl hv'⟩
      simp only [spec_l6Rd_pick.f]
      rw [w64 (x := p + 1) (by omega), e]
      refine Ev.neg h1 (Ev.succ ?_)
      simp only [spec_l6Rd_pick.j0]
      rw [show p + 1 - 1 = p by omega, w64 (x := p) (by omega), w64 (x := p * 7) (by omega), w64 (x := p * 7 + 3) (by omega)]
      refine Ev.neg (by simp) (Ev.neg hk (Ev.neg (by omega) (Ev.pos a0 (Ev.pos a1 (Ev.pos b0 (Ev.pos b1 (Ev.neg (by omega) ?_)))))))
      rw [hA, hB, hD, w64 (x := A) (by omega), w64 (x := A * 131) (by omega), w64 (x := B) (by omega), w64 (x := B * 1117) (by omega), w64 (x := A * 131 + B * 1117) (by omega), w64 (x := p * 29) (by omega), w64 (x := A * 131 + B * 1117 + p * 29) (by omega),
        w64 (x := D) (by omega), w64 (x := D * 53) (by omega), w64 (x := A * 131 + B * 1117 + p * 29 + D * 53) (by omega), w64 (x := Int.tdiv (A * 131 + B * 1117 + p * 29 + D * 53) 64) (by omega)]
      exact Ev.now _
theorem l6Open (s : List Int) (h : s.length ≤ maxLen ∧ ∀ x ∈ s, (Lit.int .u8 x).wf = true) : ∃ s', spec_l6Open.f s = some (s', 0) ∧ Bytes s' := by
  unfold spec_l6Open.f
  by_cases h1 : (s.length : Int) > 2000
  · rw [if_pos h1, if_pos (by omega)]
    exact ⟨_, rfl, by rw [List.length_take]; omega, fun x hx => wf_u8 (h.2 x (List.mem_of_mem_take hx))⟩
  · rw [if_neg h1]
    exact ⟨_, rfl, by omega, fun x hx => wf_u8 (h.2 x hx)⟩
def insT (t : T) : List T → List T
  | [] => [t]
  | s :: r => if lt t s then t :: s :: r else s :: insT t r
theorem mem_insT {t u : T} : ∀ {E : List T}, u ∈ insT t E ↔ u = t ∨ u ∈ E
  | [] => by simp [insT]
  | s :: r => by
    unfold insT
    split
    · simp
    · simp only [List.mem_cons, mem_insT (E := r)]
      constructor
      · rintro (h | h | h)
        · exact Or.inr (Or.inl h)
        · exact Or.inl h
        · exact Or.inr (Or.inr h)
      · rintro (h | h | h)
        · exact Or.inr (Or.inl h)
        · exact Or.inl h
        · exact Or.inr (Or.inr h)
theorem asc_insT {t : T} : ∀ {E : List T}, Asc E → t ∉ E → Asc (insT t E)
  | [], _, _ => by simp [insT, Asc]
  | s :: r, h, hn => by
    have hs := List.pairwise_cons.1 h
    unfold insT
    split
    · next hl =>
      refine List.pairwise_cons.2 ⟨fun u hu => ?_, h⟩
      rcases List.mem_cons.1 hu with rfl | hu
      · exact hl
      · exact lt_trans hl (hs.1 u hu)
    · next hl =>
      refine List.pairwise_cons.2 ⟨fun u hu => ?_, asc_insT hs.2 (fun k => hn (List.mem_cons_of_mem _ k))⟩
      rcases mem_insT.1 hu with rfl | hu
      · rcases lt_tri s u with k | k | k
        · exact k
        · exact absurd (by rw [k]; exact List.mem_cons_self) hn
        · exact absurd k hl
      · exact hs.1 u hu
theorem OK.ins {n : Int} {E : List T} (h : OK n E) {a b : Int} (ha : In n a) (hb : In n b) (hab : a ≠ b) (hn : ¬ Has E a b) : OK n (insT (Th.tie a b) E) := by
  refine ⟨h.n0, h.n8, fun t ht => ?_, asc_insT h.asc hn⟩
  rcases mem_insT.1 ht with rfl | ht
  · unfold In at ha hb
    unfold Th.tie
    split <;> dsimp only <;> omega
  · exact h.tie t ht
theorem z51 {n : Int} {E : List T} (t : T) (hE : E.length ≤ 1048576) : ∀ (d i : Nat) (out : List T), i + d = E.length → out.length ≤ i + 1 → Ev (fun k => spec_NetAdd.l0 k true i n E n out t.f0 t.f1) (n, out ++ E.drop i, true)
  | 0, i, out, h, hl => by
    refine Ev.succ ?_
    simp only [spec_NetAdd.l0]
    refine Ev.neg (by omega) (Ev.pos trivial (Ev.some_ ?_))
    rw [List.drop_of_length_le (by omega)]; simp
  | d + 1, i, out, h, hl => by
    have hi : i < E.length := by omega
    refine Ev.succ ?_
    simp only [spec_NetAdd.l0, rd_T_nat E i hi]
    refine Ev.pos (by omega) (Ev.pos trivial (Ev.pos (by omega) (Ev.pos (by omega) ?_)))
    rw [w64 (by omega), List.drop_eq_getElem_cons hi]
    refine Ev.cast (z51 (n := n) t hE d (i + 1) (out ++ [E[i]]) (by omega) (by simp only [List.length_append, List.length_singleton]; omega)) ?_
    simp
theorem z52 {n : Int} {E : List T} (t : T) (hE : E.length ≤ 1048576) : ∀ (d i : Nat) (out : List T), i + d = E.length → out.length ≤ i → Ev (fun k => spec_NetAdd.l0 k false i n E n out t.f0 t.f1) (n, out ++ insT t (E.drop i), true)
  | 0, i, out, h, hl => by
    refine Ev.succ ?_
    simp only [spec_NetAdd.l0]
    refine Ev.neg (by omega) (Ev.neg (by simp) (Ev.pos (by omega) (Ev.some_ ?_)))
    rw [List.drop_of_length_le (by omega)]; rfl
  | d + 1, i, out, h, hl => by
    have hi : i < E.length := by omega
    refine Ev.succ ?_
    simp only [spec_NetAdd.l0, rd_T_nat E i hi]
    refine Ev.pos (by omega) (Ev.neg (by simp) (Ev.pos (by omega) (Ev.bind0 (l1Less t E[i]) ?_)))
    rw [w64 (by omega), List.drop_eq_getElem_cons hi]
    unfold insT
    by_cases hlt : lt t E[i]
    · rw [if_pos hlt]
      refine Ev.pos (decide_eq_true hlt) (Ev.pos (by omega) (Ev.bind0 rfl (Ev.pos (by simp only [List.length_append, List.length_singleton]; omega) ?_)))
      refine Ev.cast (z51 (n := n) t hE d (i + 1) (out ++ [t] ++ [E[i]]) (by omega) (by simp only [List.length_append, List.length_singleton]; omega)) ?_
      simp
    · rw [if_neg hlt]
      refine Ev.neg (by simp [hlt]) (Ev.pos (by omega) ?_)
      refine Ev.cast (z52 (n := n) t hE d (i + 1) (out ++ [E[i]]) (by omega) (by simp only [List.length_append, List.length_singleton]; omega)) ?_
      simp
def MayAdd (n : Int) (E : List T) (a b : Int) : Prop := OK n E ∧ In n a ∧ In n b ∧ a ≠ b ∧ ¬ Has E a b
theorem z53 {n : Int} {E : List T} {a b : Int} (h : MayAdd n E a b) : Ev (fun k => spec_NetAdd.f k n E a b) (n, insT (tie a b) E, true) := by
  have hl := h.1.length
  simp only [spec_NetAdd.f]
  refine Ev.bind (z10 n E a (by omega) h.1.wf) (Ev.pos (dec_t ⟨h.1, h.2.1⟩) (Ev.bind (z10 n E b (by omega) h.1.wf) (Ev.pos (dec_t ⟨h.1, h.2.2.1⟩) (Ev.neg h.2.2.2.1 (Ev.bind (z11 n E a b (by omega) h.1.wf) ?_)))))
  rw [dec_f (fun k => h.2.2.2.2 k.2)]
  refine Ev.succ ?_
  simp only [spec_NetAdd.j0]
  refine Ev.neg (by simp) (Ev.bind0 (l1Tie a b) ?_)
  exact z52 (tie a b) (by omega) E.length 0 [] (by omega) (by simp)
theorem z54 {n : Int} {E : List T} {a b : Int} (hE : E.length ≤ 1048576) (hw : WF E) (h : ¬ MayAdd n E a b) : Ev (fun k => spec_NetAdd.f k n E a b) (0, [], false) := by
  have no : Ev (fun k => spec_NetAdd.j0 k a b true n E) (0, [], false) := by
    refine Ev.succ ?_
    simp only [spec_NetAdd.j0]
    exact Ev.pos trivial (Ev.now _)
  simp only [spec_NetAdd.f]
  refine Ev.bind (z10 n E a hE hw) ?_
  by_cases ha : OK n E ∧ In n a
  · refine Ev.pos (dec_t ha) (Ev.bind (z10 n E b hE hw) ?_)
    by_cases hb : OK n E ∧ In n b
    · refine Ev.pos (dec_t hb) ?_
      by_cases e : a = b
      · exact Ev.pos e no
      · refine Ev.neg e (Ev.bind (z11 n E a b hE hw) ?_)
        by_cases hh : Has E a b
        · rw [dec_t ⟨ha.1, hh⟩]; exact no
        · exact absurd ⟨ha.1, ha.2, hb.2, e, hh⟩ h
    · exact Ev.neg (by rw [dec_f hb]; simp) no
  · exact Ev.neg (by rw [dec_f ha]; simp) no
theorem z55 {n : Int} {E : List T} (h : OK n E) (a b : Int) : ∃ n' E' ok, Ev (fun k => spec_NetAdd.f k n E a b) (n', E', ok) ∧ OK n' E' := by
  have hl := h.length
  by_cases hm : MayAdd n E a b
  · exact ⟨_, _, _, z53 hm, h.ins hm.2.1 hm.2.2.1 hm.2.2.2.1 hm.2.2.2.2⟩
  · exact ⟨_, _, _, z54 (by omega) h.wf hm, OK.nil (by omega) (by omega)⟩
theorem z56 {s : List Int} (h : Bytes s) : ∀ (d : Nat) (i p n : Int) (E : List T), i ≤ d → d ≤ 20 → 0 ≤ p → p + 2 * d ≤ 101000 → OK n E → ∃ n' E' p', Ev (fun k => spec_l71Net.l2 k i s p n E) (n', E', p') ∧ OK n' E' ∧ 0 ≤ p' ∧ p' ≤ p + 2 * d
  | d, i, p, n, E, hi, hd, hp, hq, ho => by
    have stop : ∃ n' E' p', Ev (fun k => spec_l71Net.j4 k i false s p n E) (n', E', p') ∧ OK n' E' ∧ 0 ≤ p' ∧ p' ≤ p + 2 * d := by
      refine ⟨n, E, p, Ev.succ ?_, ho, hp, by omega⟩
      simp only [spec_l71Net.j4]
      exact Ev.neg (by simp) (Ev.now _)
    by_cases h1 : i > 0
    · by_cases h2 : n > 1
      · cases d with
        | zero => omega
        | succ d =>
          have h8 := ho.n8
          obtain ⟨a, ha, _⟩ := ev_pick h (p := p) (by omega) n (by omega)
          obtain ⟨b, hb, _⟩ := ev_pick h (p := p + 1) (by omega) n (by omega)
          obtain ⟨n1, E1, ok, hadd, hok⟩ := z55 ho a b
          by_cases hk : ok = true
          · obtain ⟨n2, E2, p2, hev, ho2, hp2, hq2⟩ := z56 h d (i - 1) (p + 1 + 1) n1 E1 (by omega) (by omega) (by omega) (by omega) hok
            refine ⟨n2, E2, p2, Ev.succ ?_, ho2, hp2, by omega⟩
            simp only [spec_l71Net.l2]
            refine Ev.pos h1 (Ev.succ ?_)
            simp only [spec_l71Net.j4]
            refine Ev.pos (decide_eq_true h2) (Ev.bind ha (Ev.bind hb (Ev.bind hadd (Ev.pos hk ?_))))
            rw [w64 (by omega)]
            exact hev
          · obtain ⟨n2, E2, p2, hev, ho2, hp2, hq2⟩ := z56 h d (i - 1) (p + 1 + 1) n E (by omega) (by omega) (by omega) (by omega) ho
            refine ⟨n2, E2, p2, Ev.succ ?_, ho2, hp2, by omega⟩
            simp only [spec_l71Net.l2]
            refine Ev.pos h1 (Ev.succ ?_)
            simp only [spec_l71Net.j4]
            refine Ev.pos (decide_eq_true h2) (Ev.bind ha (Ev.bind hb (Ev.bind hadd (Ev.neg hk ?_))))
            rw [w64 (by omega)]
            exact hev
      · obtain ⟨n2, E2, p2, hev, r⟩ := stop
        refine ⟨n2, E2, p2, Ev.succ ?_, r⟩
        simp only [spec_l71Net.l2]
        refine Ev.pos h1 ?_
        rw [decide_eq_false h2]
        exact hev
    · obtain ⟨n2, E2, p2, hev, r⟩ := stop
      refine ⟨n2, E2, p2, Ev.succ ?_, r⟩
      simp only [spec_l71Net.l2]
      exact Ev.neg h1 hev
theorem z57 {s : List Int} (h : Bytes s) (p n : Int) (E : List T) (hp : 0 ≤ p) (hq : p ≤ 100900) (ho : OK n E) : ∃ n' E' p', Ev (fun k => spec_l71Net.j2 k s p n E) (n', E', p') ∧ OK n' E' ∧ 0 ≤ p' ∧ p' ≤ p + 30 := by
  obtain ⟨a, ha, ha', _⟩ := ev_pick h (p := p) (by omega) 13 (by omega)
  have := ha' (by omega)
  obtain ⟨n2, E2, p2, hev, ho2, hp2, hq2⟩ := z56 h 13 a (p + 1) n E (by omega) (by omega) (by omega) (by omega) ho
  refine ⟨n2, E2, p2, Ev.succ ?_, ho2, hp2, by omega⟩
  simp only [spec_l71Net.j2]
  exact Ev.bind ha hev
theorem z58 {s : List Int} (h : Bytes s) : ∀ (d : Nat) (i p n : Int) (E : List T), i + d = 8 → 0 ≤ i → 0 ≤ p → p + d ≤ 100900 → OK n E → ∃ n' E' p', Ev (fun k => spec_l71Net.l0 k i s p n E) (n', E', p') ∧ OK n' E' ∧ 0 ≤ p' ∧ p' ≤ p + d + 30
  | d, i, p, n, E, hi, h0, hp, hq, ho => by
    by_cases h1 : i < n
    · cases d with
      | zero => have := ho.n8; omega
      | succ d =>
        obtain ⟨a, ha, _⟩ := ev_pick h (p := p) (by omega) i (by omega)
        obtain ⟨n1, E1, ok, hadd, hok⟩ := z55 ho i a
        obtain ⟨n2, E2, p2, hev, ho2, hp2, hq2⟩ := z58 h d (i + 1) (p + 1) n1 E1 (by omega) (by omega) (by omega) (by omega) hok
        refine ⟨n2, E2, p2, Ev.succ ?_, ho2, hp2, by omega⟩
        simp only [spec_l71Net.l0]
        refine Ev.pos h1 (Ev.bind ha (Ev.bind hadd ?_))
        rw [w64 (by omega)]
        exact hev
    · obtain ⟨n2, E2, p2, hev, ho2, hp2, hq2⟩ := z57 h p n E hp (by omega) ho
      refine ⟨n2, E2, p2, Ev.succ ?_, ho2, hp2, by omega⟩
      simp only [spec_l71Net.l0]
      exact Ev.neg h1 hev
theorem z59 {s : List Int} (h : Bytes s) (p : Int) (hp : 0 ≤ p) (hq : p ≤ 100900) : ∀ (d : Nat) (i n : Int) (E : List T), i + d = 8 → 0 ≤ i → OK n E → ∃ n' E' p', Ev (fun k => spec_l71Net.l1 k i s p n E) (n', E', p') ∧ OK n' E' ∧ 0 ≤ p' ∧ p' ≤ p + 30
  | d, i, n, E, hi, h0, ho => by
    obtain ⟨n2, E2, p2, hev, r⟩ := z57 h p n E hp (by omega) ho
    by_cases h1 : i < n
    · by_cases h2 : n > 2
      · cases d with
        | zero => have := ho.n8; omega
        | succ d =>
          obtain ⟨n1, E1, ok, hadd, hok⟩ := z55 ho i (Int.tmod (i + 1) n)
          obtain ⟨n2, E2, p2, hev, r⟩ := z59 h p hp hq d (i + 1) n1 E1 (by omega) (by omega) hok
          refine ⟨n2, E2, p2, Ev.succ ?_, r⟩
          simp only [spec_l71Net.l1]
          rw [w64 (x := i + 1) (by omega)]
          exact Ev.pos h1 (Ev.pos h2 (Ev.neg (by omega) (Ev.bind hadd hev)))
      · refine ⟨n2, E2, p2, Ev.succ ?_, r⟩
        simp only [spec_l71Net.l1]
        exact Ev.pos h1 (Ev.neg h2 hev)
    · refine ⟨n2, E2, p2, Ev.succ ?_, r⟩
      simp only [spec_l71Net.l1]
      exact Ev.neg h1 hev
theorem z60 {s : List Int} (h : Bytes s) (p : Int) (hp : 0 ≤ p) (hq : p ≤ 100800) : ∃ n E p', Ev (fun k => spec_l71Net.f k s p) (n, E, p') ∧ OK n E ∧ 0 ≤ p' ∧ p' ≤ p + 50 := by
  obtain ⟨a, ha, ha', _⟩ := ev_pick h (p := p) (by omega) 8 (by omega)
  have := ha' (by omega)
  obtain ⟨b, hb, hb', _⟩ := ev_pick h (p := p + 1) (by omega) 6 (by omega)
  have hn : OK (1 + a) ([] : List T) := OK.nil (by omega) (by omega)
  simp only [spec_l71Net.f]
  by_cases h0 : b = 0
  · obtain ⟨n2, E2, p2, hev, ho2, hp2, hq2⟩ := z58 h 7 1 (p + 1 + 1) (1 + a) [] (by omega) (by omega) (by omega) (by omega) hn
    refine ⟨n2, E2, p2, Ev.bind ha (Ev.bind hb (Ev.pos h0 ?_)), ho2, hp2, by omega⟩
    rw [w64 (by omega)]
    exact hev
  · by_cases h1 : b = 1
    · obtain ⟨n2, E2, p2, hev, ho2, hp2, hq2⟩ := z59 h (p + 1 + 1) (by omega) (by omega) 8 0 (1 + a) [] (by omega) (by omega) hn
      refine ⟨n2, E2, p2, Ev.bind ha (Ev.bind hb (Ev.neg h0 (Ev.pos h1 ?_))), ho2, hp2, by omega⟩
      rw [w64 (by omega)]
      exact hev
    · obtain ⟨n2, E2, p2, hev, ho2, hp2, hq2⟩ := z57 h (p + 1 + 1) (1 + a) [] (by omega) (by omega) hn
      refine ⟨n2, E2, p2, Ev.bind ha (Ev.bind hb (Ev.neg h0 (Ev.neg h1 ?_))), ho2, hp2, by omega⟩
      rw [w64 (by omega)]
      exact hev
structure Small (n : Int) (E : List T) : Prop where
  n : -1 ≤ n ∧ n ≤ 9
  len : E.length ≤ 70
  tie : ∀ t ∈ E, (-9 ≤ t.f0 ∧ t.f0 ≤ 9) ∧ (-9 ≤ t.f1 ∧ t.f1 ≤ 9)
theorem Small.wf {n : Int} {E : List T} (h : Small n E) : WF E := fun t ht => by have := h.tie t ht; omega
theorem Small.le {n : Int} {E : List T} (h : Small n E) : E.length ≤ 1048576 := by have := h.len; omega
theorem OK.small {n : Int} {E : List T} (h : OK n E) : Small n E := by
  refine ⟨?_, by have := h.length; omega, fun t ht => ?_⟩
  · have := h.n0; have := h.n8; omega
  · have := h.tie t ht; have := h.n8; omega
theorem z61 {s : List Int} (h : Bytes s) (p : Int) (hp : 0 ≤ p) (hq : p ≤ 100800) {n : Int} {E : List T} (ho : OK n E) : ∃ n' E' p', Ev (fun k => spec_l71Spoil.f k s p n E) (n', E', p') ∧ Small n' E' ∧ 0 ≤ p' ∧ p' ≤ p + 3 := by
  have hl := ho.length
  have h8 := ho.n8
  have h0 := ho.n0
  have sm := ho.small
  have add : ∀ t : T, ((-9 ≤ t.f0 ∧ t.f0 ≤ 9) ∧ (-9 ≤ t.f1 ∧ t.f1 ≤ 9)) → Small n (E ++ [t]) := fun t ht => ⟨sm.n, by simp only [List.length_append, List.length_singleton]; omega, fun u hu => by
    rcases List.mem_append.1 hu with m | m
    · exact sm.tie u m
    · rw [List.mem_singleton] at m; subst m; exact ht⟩
  obtain ⟨a, ha, ha', _⟩ := ev_pick h (p := p) (by omega) 6 (by omega)
  have := ha' (by omega)
  simp only [spec_l71Spoil.f]
  by_cases e0 : a = 0
  · obtain ⟨b, hb, hb', _⟩ := ev_pick h (p := p + 1) (by omega) 5 (by omega)
    have := hb' (by omega)
    have hv : -1 ≤ rd [(-1 : Int), 0, 1, 8, 9] b ∧ rd [(-1 : Int), 0, 1, 8, 9] b ≤ 9 := by
      obtain rfl | rfl | rfl | rfl | rfl : b = 0 ∨ b = 1 ∨ b = 2 ∨ b = 3 ∨ b = 4 := by omega
      all_goals decide
    refine ⟨_, _, _, Ev.bind0 (l1Copy n E (by omega)) (Ev.bind ha (Ev.pos e0 (Ev.bind0 rfl (Ev.bind hb (Ev.pos (by omega) (Ev.pos (by simp; omega) (Ev.now _))))))), ⟨hv, sm.len, sm.tie⟩, by omega, by omega⟩
  · by_cases e1 : a = 1
    · obtain ⟨b, hb, hb', _⟩ := ev_pick h (p := p + 1) (by omega) 3 (by omega)
      obtain ⟨c, hc, hc', _⟩ := ev_pick h (p := p + 1 + 1) (by omega) 3 (by omega)
      have := hb' (by omega)
      have := hc' (by omega)
      exact ⟨_, _, _, Ev.bind0 (l1Copy n E (by omega)) (Ev.bind ha (Ev.neg e0 (Ev.pos e1 (Ev.bind hb (Ev.bind hc (Ev.pos (by dsimp only; omega) (Ev.now _))))))), add ⟨b, c⟩ (by dsimp only; omega), by omega, by omega⟩
    · by_cases e2 : a = 2
      · refine ⟨_, _, _, Ev.bind0 (l1Copy n E (by omega)) (Ev.bind ha (Ev.neg e0 (Ev.neg e1 (Ev.pos e2 (Ev.pos (by dsimp only; omega) (Ev.now _)))))), add ⟨wrap64 (n - 1), n⟩ ?_, by omega, by omega⟩
        rw [w64 (by omega)]
        dsimp only; omega
      · by_cases e3 : a = 3
        · by_cases hE : (E.length : Int) > 0
          · obtain ⟨b, hb, hb', _⟩ := ev_pick h (p := p + 1) (by omega) (E.length : Int) (by omega)
            have hbb := hb' (by omega)
            refine ⟨_, _, _, Ev.bind0 (l1Copy n E (by omega)) (Ev.bind ha (Ev.neg e0 (Ev.neg e1 (Ev.neg e2 (Ev.pos e3 (Ev.pos hE (Ev.bind hb (Ev.pos hbb.1 (Ev.pos hbb.2 (Ev.now _)))))))))), ⟨sm.n, by rw [List.length_set]; exact sm.len, fun u hu => ?_⟩, by omega, by omega⟩
            rcases List.mem_or_eq_of_mem_set hu with m | rfl
            · exact sm.tie u m
            · have hbn : b.toNat < E.length := by omega
              have e : (rd_T52 E b) = E[b.toNat] := by
                have := rd_T_nat E b.toNat hbn
                rw [show ((b.toNat : Nat) : Int) = b by omega] at this
                exact this
              have := sm.tie _ (List.getElem_mem hbn)
              dsimp only
              rw [e]
              omega
          · exact ⟨_, _, _, Ev.bind0 (l1Copy n E (by omega)) (Ev.bind ha (Ev.neg e0 (Ev.neg e1 (Ev.neg e2 (Ev.pos e3 (Ev.neg hE (Ev.now _))))))), sm, by omega, by omega⟩
        · by_cases e4 : a = 4
          · by_cases hE : (E.length : Int) > 1
            · refine ⟨_, _, _, Ev.bind0 (l1Copy n E (by omega)) (Ev.bind ha (Ev.neg e0 (Ev.neg e1 (Ev.neg e2 (Ev.neg e3 (Ev.pos e4 (Ev.pos hE (Ev.pos (by dsimp only; omega) (Ev.pos (by dsimp only; omega) (Ev.now _)))))))))), add _ ?_, by omega, by omega⟩
              have e : rd_T52 E 0 = E[0] := rd_T_nat E 0 (by omega)
              rw [e]
              have := sm.tie _ (List.getElem_mem (show 0 < E.length by omega))
              dsimp only; omega
            · exact ⟨_, _, _, Ev.bind0 (l1Copy n E (by omega)) (Ev.bind ha (Ev.neg e0 (Ev.neg e1 (Ev.neg e2 (Ev.neg e3 (Ev.pos e4 (Ev.neg hE (Ev.now _)))))))), sm, by omega, by omega⟩
          · refine ⟨_, _, _, Ev.bind0 (l1Copy n E (by omega)) (Ev.bind ha (Ev.neg e0 (Ev.neg e1 (Ev.neg e2 (Ev.neg e3 (Ev.neg e4 (Ev.bind0 rfl (Ev.pos (by simp only [List.length_singleton]; omega) (Ev.now _))))))))), ⟨sm.n, by simp only [List.singleton_append, List.length_cons]; omega, fun u hu => ?_⟩, by omega, by omega⟩
            rcases List.mem_append.1 hu with m | m
            · rw [List.mem_singleton] at m; subst m; dsimp only; omega
            · exact sm.tie u m
theorem z62 {s : List Int} (h : Bytes s) (p : Int) (hp : 0 ≤ p) (hq : p ≤ 100700) : ∃ n E p', Ev (fun k => spec_l71Any.f k s p) (n, E, p') ∧ Small n E ∧ 0 ≤ p' ∧ p' ≤ p + 60 := by
  obtain ⟨n, E, p1, hev, ho, hp1, hq1⟩ := z60 h p hp (by omega)
  obtain ⟨a, ha, _⟩ := ev_pick h (p := p1) (by omega) 12 (by omega)
  simp only [spec_l71Any.f]
  by_cases e : a = 0
  · obtain ⟨n2, E2, p2, h2, hs, hp2, hq2⟩ := z61 h (p1 + 1) (by omega) (by omega) ho
    exact ⟨_, _, _, Ev.bind hev (Ev.bind ha (Ev.pos e (Ev.bind h2 (Ev.now _)))), hs, hp2, by dsimp only; omega⟩
  · exact ⟨_, _, _, Ev.bind hev (Ev.bind ha (Ev.neg e (Ev.now _))), ho.small, by omega, by omega⟩
theorem z63 {s : List Int} (h : Bytes s) (p : Int) (hp : 0 ≤ p) (hq : p ≤ 100900) {n : Int} {E : List T} (hs : Small n E) : ∃ v p', Ev (fun k => spec_l71Knot.f k s p n E) (v, p') ∧ (-9 ≤ v ∧ v ≤ 9) ∧ 0 ≤ p' ∧ p' ≤ p + 2 := by
  have hn := hs.n
  have odd : ∀ p, 0 ≤ p → p ≤ 100950 → ∃ v, Ev (fun k => spec_l71Knot.j0 k true s p n E) (v, p + 1) ∧ (-9 ≤ v ∧ v ≤ 9) := fun p hp hq => by
    obtain ⟨b, hb, hb', _⟩ := ev_pick h (p := p) (by omega) 3 (by omega)
    have := hb' (by omega)
    have hv : -9 ≤ rd [(-1 : Int), n, 3] b ∧ rd [(-1 : Int), n, 3] b ≤ 9 := by
      obtain rfl | rfl | rfl : b = 0 ∨ b = 1 ∨ b = 2 := by omega
      · show (-9 : Int) ≤ -1 ∧ (-1 : Int) ≤ 9; omega
      · show -9 ≤ n ∧ n ≤ 9; omega
      · show (-9 : Int) ≤ 3 ∧ (3 : Int) ≤ 9; omega
    refine ⟨_, Ev.succ ?_, hv⟩
    simp only [spec_l71Knot.j0]
    exact Ev.pos trivial (Ev.bind0 rfl (Ev.bind hb (Ev.pos (by omega) (Ev.pos (by simp; omega) (Ev.now _)))))
  simp only [spec_l71Knot.f]
  by_cases h1 : n < 1
  · obtain ⟨v, hv, r⟩ := odd p hp (by omega)
    exact ⟨v, p + 1, Ev.pos h1 hv, r, by omega, by omega⟩
  · obtain ⟨a, ha, _⟩ := ev_pick h (p := p) (by omega) 24 (by omega)
    by_cases e : a = 0
    · obtain ⟨v, hv, r⟩ := odd (p + 1) (by omega) (by omega)
      refine ⟨v, p + 1 + 1, Ev.neg h1 (Ev.bind ha ?_), r, by omega, by omega⟩
      subst e
      exact hv
    · obtain ⟨b, hb, hb', _⟩ := ev_pick h (p := p + 1) (by omega) n (by omega)
      have := hb' (by omega)
      refine ⟨b, p + 1 + 1, Ev.neg h1 (Ev.bind ha ?_), by omega, by omega, by omega⟩
      dsimp only
      rw [beq_eq_false_iff_ne.2 e]
      refine Ev.succ ?_
      simp only [spec_l71Knot.j0]
      exact Ev.neg (by simp) (Ev.bind hb (Ev.now _))
theorem z64 {s : List Int} (h : Bytes s) (p : Int) (hp : 0 ≤ p) (hq : p ≤ 100700) : ∃ n E a b p', Ev (fun k => spec_l71Pair.f k s p) (n, E, a, b, p') ∧ Small n E ∧ (-9 ≤ a ∧ a ≤ 9) ∧ (-9 ≤ b ∧ b ≤ 9) ∧ 0 ≤ p' ∧ p' ≤ p + 70 := by
  obtain ⟨n, E, p1, hev, hs, hp1, hq1⟩ := z62 h p hp (by omega)
  obtain ⟨a, p2, ha, har, hp2, hq2⟩ := z63 h p1 hp1 (by omega) hs
  obtain ⟨b, p3, hb, hbr, hp3, hq3⟩ := z63 h p2 hp2 (by omega) hs
  have hn := hs.n
  simp only [spec_l71Pair.f]
  by_cases e : a = b
  · by_cases h1 : n > 1
    · obtain ⟨c, hc, _⟩ := ev_pick h (p := p3) (by omega) 8 (by omega)
      by_cases h2 : c > 0
      · refine ⟨n, E, a, _, p3 + 1, Ev.bind hev (Ev.bind ha (Ev.bind hb (Ev.pos e (Ev.pos h1 (Ev.bind hc (Ev.pos h2 (Ev.neg (by dsimp only; omega) (Ev.now _)))))))), hs, har, ?_, by omega, by omega⟩
        rw [w64 (by omega)]
        have := Int.tmod_lt_of_pos (a + 1) (show 0 < n by omega)
        have := Int.lt_tmod_of_pos (a + 1) (show 0 < n by omega)
        dsimp only; omega
      · exact ⟨n, E, a, b, p3 + 1, Ev.bind hev (Ev.bind ha (Ev.bind hb (Ev.pos e (Ev.pos h1 (Ev.bind hc (Ev.neg h2 (Ev.now _))))))), hs, har, hbr, by omega, by omega⟩
    · exact ⟨n, E, a, b, p3, Ev.bind hev (Ev.bind ha (Ev.bind hb (Ev.pos e (Ev.neg h1 (Ev.now _))))), hs, har, hbr, by omega, by omega⟩
  · exact ⟨n, E, a, b, p3, Ev.bind hev (Ev.bind ha (Ev.bind hb (Ev.neg e (Ev.now _)))), hs, har, hbr, by omega, by omega⟩
end Go.Proofs.Ytffflhmblelegaa.Th
namespace Go.Proofs.Ytffflhmblelegaa.Th
open Go.RowKit Go.Proofs.YtffflhmblelegaaW.PrintWords Go.Proofs.YtffflhmblelegaaW.PrintLast Go.Proofs.YtffflhmblelegaaW.PrintMore Go.Proofs.Ytffflhmblelegaa.F Classical
noncomputable def waysR (n : Int) (E : List T) (b : Int) : Nat → List Int → List (List Int)
  | 0, w => if rd w ((w.length : Int) - 1) = b then [w] else []
  | d + 1, w => if rd w ((w.length : Int) - 1) = b then [w] else (ks n).flatMap (fun k => if Has E (rd w ((w.length : Int) - 1)) k ∧ k ∉ w then waysR n E b d (w ++ [k]) else [])
theorem z65 {α β : Type} (f : α → List β) (m : Nat) : ∀ l : List α, (∀ x ∈ l, (f x).length ≤ m) → (l.flatMap f).length ≤ l.length * m
  | [], _ => by simp
  | x :: l, h => by
    rw [List.flatMap_cons, List.length_append, List.length_cons, Nat.succ_mul]
    have := h x (by simp)
    have := z65 f m l (fun y hy => h y (List.mem_cons_of_mem _ hy))
    omega
theorem z66 {n : Int} (hn : n ≤ 8) (E : List T) (b : Int) : ∀ (d : Nat) (w : List Int), (waysR n E b d w).length ≤ 8 ^ d := by
  intro d
  induction d with
  | zero => intro w; simp only [waysR]; split <;> simp
  | succ d ih =>
    intro w
    simp only [waysR]
    split
    · have : 1 ≤ 8 ^ (d + 1) := Nat.pos_of_ne_zero (by simp)
      simpa using this
    · have h1 := z65 (fun k => if Has E (rd w ((w.length : Int) - 1)) k ∧ k ∉ w then waysR n E b d (w ++ [k]) else []) (8 ^ d) (ks n) (fun k _ => by
        split
        · exact ih _
        · simp)
      have h2 : (ks n).length ≤ 8 := by rw [z12]; omega
      have h3 : (ks n).length * 8 ^ d ≤ 8 * 8 ^ d := Nat.mul_le_mul_right _ h2
      rw [Nat.pow_succ]
      omega
theorem z67 {n : Int} {w : List Int} (hn : w.Nodup) (hi : ∀ x ∈ w, In n x) : w.length ≤ n.toNat := by
  have h := List.Nodup.length_le_of_subset hn (l₂ := ks n) (fun x hx => mem_ks.2 (hi x hx))
  rwa [z12] at h
theorem z68 {w : List Int} {k : Int} (hn : w.Nodup) (hk : k ∉ w) : (w ++ [k]).Nodup := by
  unfold List.Nodup at *
  rw [List.pairwise_append]
  exact ⟨hn, by simp, fun x hx y hy e => hk (by rw [List.mem_singleton] at hy; subst hy; subst e; exact hx)⟩
theorem z69 {w : List Int} {a : Int} {r : List Int} (e : w = r ++ [a]) : rd w ((w.length : Int) - 1) = a := by
  subst e
  rw [show (((r ++ [a]).length : Int) - 1) = ((r.length : Nat) : Int) by simp, rd_nat]
  simp
theorem z70 {n : Int} {E : List T} {b : Int} (h : OK n E) : ∀ (d : Nat) (r : List Int) (a : Int) (u : List Int), (r ++ [a]).Nodup → (∀ x ∈ r ++ [a], In n x) → r.length + 1 + d = n.toNat →
    (u ∈ waysR n E b d (r ++ [a]) ↔ ∃ v, u = r ++ v ∧ u.Nodup ∧ Path E a b v) := by
  intro d
  induction d with
  | zero =>
    intro r a u hn hi hd
    simp only [waysR]
    rw [z69 rfl]
    constructor
    · intro hu
      split at hu
      · next e =>
        subst e
        rw [List.mem_singleton] at hu
        subst hu
        exact ⟨[a], rfl, hn, Path.single E a⟩
      · exact absurd hu (by simp)
    · rintro ⟨v, rfl, hnd, p⟩
      obtain ⟨s, rfl⟩ := p.cons_eq
      cases s with
      | nil =>
        have hb : a = b := by have := p.lst; simpa using this
        rw [if_pos hb]
        simp
      | cons c s =>
        exfalso
        have hc : In n c := (h.has p.walk.1).2.1
        have hcn : c ∉ r ++ [a] := by
          intro hc'
          rw [show r ++ a :: c :: s = (r ++ [a]) ++ c :: s by simp] at hnd
          exact (List.nodup_append.1 hnd).2.2 c hc' c (by simp) rfl
        have := z67 (n := n) (z68 hn hcn) (fun x hx => by
          rw [List.mem_append, List.mem_singleton] at hx
          rcases hx with hx | hx
          · exact hi x hx
          · subst hx; exact hc)
        simp at this
        omega
  | succ d ih =>
    intro r a u hn hi hd
    simp only [waysR]
    rw [z69 rfl]
    constructor
    · intro hu
      split at hu
      · next e =>
        subst e
        rw [List.mem_singleton] at hu
        subst hu
        exact ⟨[a], rfl, hn, Path.single E a⟩
      · obtain ⟨k, hk, hu⟩ := List.mem_flatMap.1 hu
        split at hu
        · next hc =>
          have hkn := mem_ks.1 hk
          obtain ⟨v, e, hnd, p⟩ := (ih (r ++ [a]) k u (z68 hn hc.2) (fun x hx => by
            rw [List.mem_append, List.mem_singleton] at hx
            rcases hx with hx | hx
            · exact hi x hx
            · subst hx; exact hkn) (by simp; omega)).1 hu
          refine ⟨a :: v, by rw [e]; simp, hnd, p.consP hc.1 (fun ha => ?_)⟩
          rw [e] at hnd
          exact (List.nodup_append.1 hnd).2.2 a (by simp) a ha rfl
        · exact absurd hu (by simp)
    · rintro ⟨v, rfl, hnd, p⟩
      obtain ⟨s, rfl⟩ := p.cons_eq
      cases s with
      | nil =>
        have hb : a = b := by have := p.lst; simpa using this
        rw [if_pos hb]
        simp
      | cons c s =>
        have hcn : c ∉ r ++ [a] := by
          intro hc'
          rw [show r ++ a :: c :: s = (r ++ [a]) ++ c :: s by simp] at hnd
          exact (List.nodup_append.1 hnd).2.2 c hc' c (by simp) rfl
        have hab : a ≠ b := by
          intro e
          have hb := p.lst
          rw [List.getLast?_cons_cons] at hb
          have := List.mem_of_getLast? hb
          have hx := p.nd
          rw [List.nodup_cons] at hx
          exact hx.1 (e ▸ this)
        rw [if_neg hab]
        have hc : In n c := (h.has p.walk.1).2.1
        refine List.mem_flatMap.2 ⟨c, mem_ks.2 hc, ?_⟩
        rw [if_pos ⟨p.walk.1, hcn⟩]
        refine (ih (r ++ [a]) c _ (z68 hn hcn) (fun x hx => by
            rw [List.mem_append, List.mem_singleton] at hx
            rcases hx with hx | hx
            · exact hi x hx
            · subst hx; exact hc) (by simp; omega)).2 ⟨c :: s, by simp, hnd, ?_⟩
        exact Path.drop (A := [a]) p
theorem z71 {n : Int} {E : List T} {b : Int} (h : OK n E) : ∀ (d : Nat) (r : List Int) (a : Int), (r ++ [a]).Nodup → (∀ x ∈ r ++ [a], In n x) → r.length + 1 + d = n.toNat → (waysR n E b d (r ++ [a])).Nodup := by
  intro d
  induction d with
  | zero => intro r a _ _ _; simp only [waysR]; split <;> simp
  | succ d ih =>
    intro r a hn hi hd
    simp only [waysR]
    split
    · simp
    · have hup : ∀ k ∈ ks n, k ∉ r ++ [a] → (∀ x ∈ r ++ [a] ++ [k], In n x) := fun k hk _ x hx => by
        rw [List.mem_append, List.mem_singleton] at hx
        rcases hx with hx | hx
        · exact hi x hx
        · subst hx; exact mem_ks.1 hk
      unfold List.Nodup
      rw [List.pairwise_flatMap]
      refine ⟨fun k hk => ?_, ?_⟩
      · split
        · next hc => exact ih (r ++ [a]) k (z68 hn hc.2) (hup k hk hc.2) (by simp; omega)
        · simp
      · refine (List.Pairwise.and_mem.1 (ks_nodup n)).imp ?_
        rintro k k' ⟨hk, hk', hne⟩ u hu u' hu' e
        subst e
        split at hu
        · next hc =>
          split at hu'
          · next hc' =>
            obtain ⟨v, e1, _, p1⟩ := (z70 h d (r ++ [a]) k u (z68 hn hc.2) (hup k hk hc.2) (by simp; omega)).1 hu
            obtain ⟨v', e2, _, p2⟩ := (z70 h d (r ++ [a]) k' u (z68 hn hc'.2) (hup k' hk' hc'.2) (by simp; omega)).1 hu'
            rw [e1] at e2
            have := List.append_cancel_left e2
            subst this
            have e3 := p1.hd.symm.trans p2.hd
            injection e3 with e3
            exact hne e3
          · exact absurd hu' (by simp)
        · exact absurd hu (by simp)
noncomputable def allW (n : Int) (E : List T) (a b : Int) : List (List Int) := sortW (waysR n E b (n.toNat - 1) [a])
theorem mem_allW {n : Int} {E : List T} {a b : Int} (h : OK n E) (ha : In n a) {w : List Int} : w ∈ allW n E a b ↔ Path E a b w := by
  unfold allW
  rw [(sortW_perm _).mem_iff, show [a] = [] ++ [a] from rfl, z70 h (n.toNat - 1) [] a w (by simp) (by simpa using ha) (by simp; have := ha.1; have := ha.2; omega)]
  exact ⟨fun ⟨v, e, _, p⟩ => by rw [e]; exact p, fun p => ⟨w, rfl, p.nd, p⟩⟩
theorem z72 {n : Int} {E : List T} {a b : Int} (h : OK n E) (ha : In n a) : (allW n E a b).Nodup := by
  unfold allW
  rw [(sortW_perm _).nodup_iff]
  exact z71 h (n.toNat - 1) [] a (by simp) (by simpa using ha) (by simp; have := ha.1; have := ha.2; omega)
theorem Path.len {n : Int} {E : List T} {a b : Int} {w : List Int} (h : OK n E) (ha : In n a) (p : Path E a b w) : w.length ≤ 8 := by
  have := z67 (n := n) p.nd (fun x hx => (p.conn_mem hx).inNet h ha)
  have := h.n8
  omega
theorem allW_len {n : Int} {E : List T} {a b : Int} (h : OK n E) (ha : In n a) : (allW n E a b).length ≤ 1000000000 ∧ ∀ w ∈ allW n E a b, w.length ≤ 8 := by
  refine ⟨?_, fun w hw => ((mem_allW h ha).1 hw).len h ha⟩
  unfold allW
  rw [(sortW_perm _).length_eq]
  have h1 := z66 (n := n) (by have := h.n8; omega) E b (n.toNat - 1) [a]
  have h2 : 8 ^ (n.toNat - 1) ≤ 8 ^ 7 := Nat.pow_le_pow_right (by omega) (by have := h.n8; omega)
  have h3 : (8 : Nat) ^ 7 ≤ 1000000000 := by decide
  omega
end Go.Proofs.Ytffflhmblelegaa.Th
namespace Go.Proofs.Ytffflhmblelegaa.Th
open Go.RowKit Go.Proofs.YtffflhmblelegaaW.PrintWords Go.Proofs.YtffflhmblelegaaW.PrintLast Go.Proofs.YtffflhmblelegaaW.PrintMore Go.Proofs.Ytffflhmblelegaa.F
noncomputable def nextL (n : Int) (E : List T) (v : Int) : List Int := (ks n).filter (fun c => dec (Has E v c))
theorem mem_nextL {n : Int} {E : List T} {v c : Int} : c ∈ nextL n E v ↔ In n c ∧ Has E v c := by
  unfold nextL
  rw [List.mem_filter, mem_ks, dec_iff]
  exact Iff.rfl
theorem z73 (n : Int) (E : List T) (v : Int) : (nextL n E v).length ≤ n.toNat := by
  have := List.length_filter_le (fun c => dec (Has E v c)) (ks n)
  rw [z12] at this
  exact this
theorem z74 (n : Int) (E : List T) (v : Int) (hE : E.length ≤ 1048576) (hn : n ≤ 1000) : ∀ (d : Nat) (i : Int) (out : List Int), 0 ≤ i → i + d = n → out.length ≤ i.toNat →
    Ev (fun k => spec_l2Next.l0 k v out i n E) (out ++ (ksFrom n i).filter (fun c => dec (Has E v c)))
  | 0, i, out, h0, h, _ => by
    refine Ev.succ ?_
    simp only [spec_l2Next.l0]
    refine Ev.neg (by omega) (Ev.some_ ?_)
    rw [z16 (by omega)]; simp
  | d + 1, i, out, h0, h, hl => by
    refine Ev.succ ?_
    simp only [spec_l2Next.l0]
    refine Ev.pos (by omega) (Ev.bind (ev_l1Has n E v i hE) ?_)
    rw [z17 h0 (by omega), w64 (by omega)]
    by_cases hv : Has E v i
    · refine Ev.pos (dec_t hv) (Ev.pos (by omega) ?_)
      refine Ev.cast (z74 n E v hE hn d (i + 1) (out ++ [i]) (by omega) (by omega) (by simp only [List.length_append, List.length_singleton]; omega)) ?_
      rw [List.filter_cons_of_pos (p := fun c => dec (Has E v c)) (dec_t hv)]; simp
    · refine Ev.neg (by rw [dec_f hv]; simp) ?_
      refine Ev.cast (z74 n E v hE hn d (i + 1) out (by omega) (by omega) (by omega)) ?_
      rw [List.filter_cons_of_neg (p := fun c => dec (Has E v c)) (by rw [dec_f hv]; simp)]
theorem z75 {n : Int} {E : List T} (v : Int) (hE : E.length ≤ 1048576) (h0 : 0 ≤ n) (hn : n ≤ 1000) : Ev (fun k => spec_l2Next.f k n E v) (nextL n E v) := by
  simp only [spec_l2Next.f]
  refine Ev.cast (z74 n E v hE hn n.toNat 0 [] (by omega) (by omega) (by simp)) ?_
  rw [z15]; rfl
end Go.Proofs.Ytffflhmblelegaa.Th
namespace Go.Proofs.Ytffflhmblelegaa.Th
open Go.RowKit Go.Proofs.YtffflhmblelegaaW.PrintWords Go.Proofs.YtffflhmblelegaaW.PrintLast Go.Proofs.YtffflhmblelegaaW.PrintMore Go.Proofs.Ytffflhmblelegaa.F Classical
noncomputable def onR (n : Int) (E : List T) (b : Int) : Nat → List Int → List (List Int)
  | 0, w => if rd w ((w.length : Int) - 1) = b then [w] else []
  | d + 1, w => if rd w ((w.length : Int) - 1) = b then [] else (nextL n E (rd w ((w.length : Int) - 1))).flatMap (fun k => if k ∈ w then [] else onR n E b d (w ++ [k]))
theorem onR_pre (n : Int) (E : List T) (b : Int) : ∀ (d : Nat) (w u : List Int), u ∈ onR n E b d w → ∃ s, u = w ++ s ∧ s.length = d
  | 0, w, u, h => by
    simp only [onR] at h
    split at h
    · rw [List.mem_singleton] at h
      exact ⟨[], by rw [h]; simp, rfl⟩
    · exact absurd h (by simp)
  | d + 1, w, u, h => by
    simp only [onR] at h
    split at h
    · exact absurd h (by simp)
    · obtain ⟨k, _, hu⟩ := List.mem_flatMap.1 h
      split at hu
      · exact absurd hu (by simp)
      · obtain ⟨s, rfl, hs⟩ := onR_pre n E b d (w ++ [k]) u hu
        exact ⟨k :: s, by simp, by simp [hs]⟩
theorem ltL_app {l m : List Int} (h : ltL l m) : ∀ w : List Int, ltL (w ++ l) (w ++ m)
  | [] => h
  | a :: w => by
    rw [List.cons_append, List.cons_append]
    unfold ltL
    exact Or.inr ⟨rfl, ltL_app h w⟩
theorem z76 (n : Int) (E : List T) (v : Int) : (nextL n E v).Pairwise (· < ·) := (z14 n).filter _
theorem z77 (n : Int) (E : List T) (b : Int) : ∀ (d : Nat) (w : List Int), (onR n E b d w).Pairwise ltW
  | 0, w => by simp only [onR]; split <;> simp
  | d + 1, w => by
    simp only [onR]
    split
    · simp
    · rw [List.pairwise_flatMap]
      refine ⟨fun k _ => ?_, (z76 n E _).imp ?_⟩
      · split
        · simp
        · exact z77 n E b d (w ++ [k])
      · intro k k' hlt u hu u' hu'
        split at hu
        · exact absurd hu (by simp)
        · split at hu'
          · exact absurd hu' (by simp)
          · obtain ⟨s, rfl, hs⟩ := onR_pre n E b d _ _ hu
            obtain ⟨s', rfl, hs'⟩ := onR_pre n E b d _ _ hu'
            refine Or.inr ⟨by simp [hs, hs'], ?_⟩
            rw [List.append_assoc, List.append_assoc]
            exact ltL_app (by rw [List.singleton_append, List.singleton_append]; unfold ltL; exact Or.inl hlt) w
theorem mem_onR {n : Int} {E : List T} {b : Int} (h : OK n E) : ∀ (d : Nat) (r : List Int) (a : Int) (u : List Int), (r ++ [a]).Nodup →
    (u ∈ onR n E b d (r ++ [a]) ↔ ∃ v, u = r ++ v ∧ u.Nodup ∧ Path E a b v ∧ v.length = d + 1) := by
  intro d
  induction d with
  | zero =>
    intro r a u hn
    simp only [onR]
    rw [z69 rfl]
    constructor
    · intro hu
      split at hu
      · next e =>
        subst e
        rw [List.mem_singleton] at hu
        subst hu
        exact ⟨[a], rfl, hn, Path.single E a, rfl⟩
      · exact absurd hu (by simp)
    · rintro ⟨v, rfl, hnd, p, hl⟩
      obtain ⟨s, rfl⟩ := p.cons_eq
      obtain rfl : s = [] := List.eq_nil_of_length_eq_zero (by simpa using hl)
      have hb : a = b := by have := p.lst; simpa using this
      rw [if_pos hb]
      simp
  | succ d ih =>
    intro r a u hn
    simp only [onR]
    rw [z69 rfl]
    constructor
    · intro hu
      split at hu
      · exact absurd hu (by simp)
      · obtain ⟨k, hk, hu⟩ := List.mem_flatMap.1 hu
        split at hu
        · exact absurd hu (by simp)
        · next hc =>
          obtain ⟨v, e, hnd, p, hl⟩ := (ih (r ++ [a]) k u (z68 hn hc)).1 hu
          refine ⟨a :: v, by rw [e]; simp, hnd, p.consP (mem_nextL.1 hk).2 (fun ha => ?_), by rw [List.length_cons, hl]⟩
          rw [e] at hnd
          exact (List.nodup_append.1 hnd).2.2 a (by simp) a ha rfl
    · rintro ⟨v, rfl, hnd, p, hl⟩
      obtain ⟨s, rfl⟩ := p.cons_eq
      cases s with
      | nil => simp at hl
      | cons c s =>
        have hcn : c ∉ r ++ [a] := by
          intro hc'
          rw [show r ++ a :: c :: s = (r ++ [a]) ++ c :: s by simp] at hnd
          exact (List.nodup_append.1 hnd).2.2 c hc' c (by simp) rfl
        have hab : a ≠ b := by
          intro e
          have hb := p.lst
          rw [List.getLast?_cons_cons] at hb
          have := List.mem_of_getLast? hb
          have hx := p.nd
          rw [List.nodup_cons] at hx
          exact hx.1 (e ▸ this)
        rw [if_neg hab]
        have hc : In n c := (h.has p.walk.1).2.1
        refine List.mem_flatMap.2 ⟨c, mem_nextL.2 ⟨hc, p.walk.1⟩, ?_⟩
        rw [if_neg hcn]
        refine (ih (r ++ [a]) c _ (z68 hn hcn)).2 ⟨c :: s, by simp, hnd, ?_, by simpa using hl⟩
        exact Path.drop (A := [a]) p
noncomputable def specAll (n : Int) (E : List T) (a b : Int) : List (List Int) := (List.range n.toNat).flatMap (fun i => onR n E b i [a])
theorem z78 (n : Int) (E : List T) (a b : Int) : (specAll n E a b).Pairwise ltW := by
  unfold specAll
  rw [List.pairwise_flatMap]
  refine ⟨fun i _ => z77 n E b i [a], List.pairwise_lt_range.imp ?_⟩
  intro i j hij u hu v hv
  obtain ⟨s, rfl, hs⟩ := onR_pre n E b _ _ _ hu
  obtain ⟨s', rfl, hs'⟩ := onR_pre n E b _ _ _ hv
  exact Or.inl (by simp [hs, hs']; exact hij)
theorem z79 {x y : List Int} (h : ltW x y) : ¬ ltW y x := fun k => ltW_irrefl _ (ltW_trans h k)
theorem z80 {n : Int} {E : List T} {a b : Int} (h : OK n E) (ha : In n a) : specAll n E a b = allW n E a b := by
  have hs := z78 n E a b
  have hn : (specAll n E a b).Nodup := hs.imp (fun k e => by subst e; exact ltW_irrefl _ k)
  refine sortedW_unique (l := specAll n E a b) (m := allW n E a b) ((List.perm_ext_iff_of_nodup hn (z72 h ha)).2 (fun u => ?_)) (hs.imp (fun k => z79 k)) ?_
  · rw [mem_allW h ha]
    unfold specAll
    rw [List.mem_flatMap]
    constructor
    · rintro ⟨i, _, hu⟩
      obtain ⟨v, e, _, p, _⟩ := (mem_onR h i [] a u (by simp)).1 hu
      rw [e]; exact p
    · intro p
      have hl := z67 (n := n) p.nd (fun x hx => (p.conn_mem hx).inNet h ha)
      have h1 : 0 < u.length := List.length_pos_iff.2 p.ne
      exact ⟨u.length - 1, List.mem_range.2 (by omega), (mem_onR h _ [] a u (by simp)).2 ⟨u, rfl, p.nd, p, by omega⟩⟩
  · unfold allW
    exact sortW_sorted _
structure Far (n : Int) (E : List T) (b : Int) (far : List Int) : Prop where
  len : far.length = n.toNat
  zero : rd far b = 0
  down : ∀ x, In n x → 0 ≤ rd far x → x = b ∨ ∃ c, Has E x c ∧ 0 ≤ rd far c ∧ rd far x = rd far c + 1
  step : ∀ x c, Has E x c → 0 ≤ rd far x → 0 ≤ rd far c ∧ rd far c ≤ rd far x + 1
def unseen (out : List Int) : Nat := falses (out.map (fun x => decide (0 ≤ x)))
structure FarS (n : Int) (E : List T) (b : Int) (out row : List Int) (at_ : Int → Prop) (m : Int) : Prop where
  len : out.length = n.toNat
  zero : rd out b = 0
  cap : ∀ x, In n x → rd out x + unseen out ≤ n
  low : ∀ x, In n x → -1 ≤ rd out x
  down : ∀ x, In n x → 0 ≤ rd out x → x = b ∨ ∃ c, Has E x c ∧ 0 ≤ rd out c ∧ rd out x = rd out c + 1
  rows : ∀ x ∈ row, In n x ∧ 0 ≤ rd out x
  inc : row.Pairwise (fun x y => rd out x ≤ rd out y)
  near : ∀ x ∈ row, m ≤ rd out x
  top : ∀ x, In n x → rd out x ≤ m + 1
  shut : ∀ x, In n x → 0 ≤ rd out x → x ∈ row ∨ at_ x ∨ ∀ c, Has E x c → 0 ≤ rd out c ∧ rd out c ≤ rd out x + 1
theorem z81 {n : Int} (hn : n ≤ 8) (E : List T) (b : Int) : ∀ (d : Nat) (w : List Int), (onR n E b d w).length ≤ 8 ^ d := by
  intro d
  induction d with
  | zero => intro w; simp only [onR]; split <;> simp
  | succ d ih =>
    intro w
    simp only [onR]
    split
    · simp
    · have h1 := z65 (fun k => if k ∈ w then [] else onR n E b d (w ++ [k])) (8 ^ d) (nextL n E (rd w ((w.length : Int) - 1))) (fun k _ => by
        split
        · simp
        · exact ih _)
      have h2 : (nextL n E (rd w ((w.length : Int) - 1))).length ≤ 8 := by have := z73 n E (rd w ((w.length : Int) - 1)); omega
      have h3 : (nextL n E (rd w ((w.length : Int) - 1))).length * 8 ^ d ≤ 8 * 8 ^ d := Nat.mul_le_mul_right _ h2
      rw [Nat.pow_succ]
      omega
theorem ev_l2On {n : Int} {E : List T} {b : Int} (h : OK n E) {size : Nat} (hs : size ≤ 8) : ∀ (d : Nat) (w : List Int) (out : List (List Int)), w ≠ [] → w.length + d = size → out.length + 8 ^ d ≤ 1000000000 →
    Ev (fun k => spec_l2On.f k n E w b size out) (out ++ onR n E b d w) := by
  have hE := h.length
  have h8 := h.n8
  intro d
  induction d with
  | zero =>
    intro w out hw hd ho
    have hl : 0 < w.length := List.length_pos_iff.2 hw
    refine Ev.succ ?_
    simp only [spec_l2On.f, onR]
    rw [w64 (by omega)]
    refine Ev.pos (by omega) (Ev.pos (by omega) ?_)
    by_cases e : rd w ((w.length : Int) - 1) = b
    · rw [if_pos e]
      refine Ev.pos e (Ev.pos (by omega) (Ev.bind0 (a := []) rfl (Ev.pos (by simp; omega) (Ev.pos (by omega) (Ev.some_ (by simp))))))
    · rw [if_neg e, List.append_nil]
      exact Ev.neg e (Ev.pos (by omega) (Ev.now _))
  | succ d ih =>
    intro w out hw hd ho
    have hl : 0 < w.length := List.length_pos_iff.2 hw
    have hp : 8 ^ (d + 1) = 8 * 8 ^ d := by rw [Nat.pow_succ]; omega
    have hp1 : 1 ≤ 8 ^ d := Nat.pos_of_ne_zero (by simp)
    refine Ev.succ ?_
    simp only [spec_l2On.f, onR]
    rw [w64 (by omega)]
    refine Ev.pos (by omega) (Ev.pos (by omega) ?_)
    by_cases e : rd w ((w.length : Int) - 1) = b
    · rw [if_pos e, List.append_nil]
      exact Ev.pos e (Ev.neg (by omega) (Ev.now _))
    · rw [if_neg e]
      refine Ev.neg e (Ev.neg (by omega) (Ev.bind (z75 _ (by omega) h.n0 (by omega)) ?_))
      have hnl := z73 n E (rd w ((w.length : Int) - 1))
      generalize hL : nextL n E (rd w ((w.length : Int) - 1)) = L at hnl
      have hloop : ∀ (m j : Nat) (o : List (List Int)), j + m = L.length → o.length + m * 8 ^ d ≤ 1000000000 → Ev (fun k => spec_l2On.l0 k w b size o L j n E) (o ++ (L.drop j).flatMap (fun k => if k ∈ w then [] else onR n E b d (w ++ [k]))) := by
        intro m
        induction m with
        | zero =>
          intro j o hj _
          rw [List.drop_of_length_le (by omega), List.flatMap_nil, List.append_nil]
          refine Ev.succ ?_
          simp only [spec_l2On.l0]
          exact Ev.neg (by omega) (Ev.now _)
        | succ m ihm =>
          intro j o hj hb
          have hjl : j < L.length := by omega
          have hb' : o.length + (m * 8 ^ d + 8 ^ d) ≤ 1000000000 := by rw [Nat.succ_mul] at hb; exact hb
          rw [List.drop_eq_getElem_cons hjl, List.flatMap_cons]
          refine Ev.succ ?_
          simp only [spec_l2On.l0, z18 L j hjl]
          refine Ev.pos (by omega) (Ev.pos (by omega) (Ev.bind (ev_l2Has w L[j] (by omega)) ?_))
          rw [w64 (by omega)]
          by_cases hin : L[j] ∈ w
          · rw [if_pos hin, List.nil_append]
            have := ihm (j + 1) o (by omega) (by omega)
            exact Ev.pos (dec_t hin) (by exact_mod_cast this)
          · rw [if_neg hin]
            refine Ev.neg (by rw [dec_f hin]; simp) (Ev.bind0 (a := []) rfl (Ev.pos (by simp; omega) (Ev.bind0 (a := w) (by simp) (Ev.bind0 (a := [L[j]]) rfl (Ev.pos (by simp; omega) ?_)))))
            have hl1 := z81 (n := n) (by omega) E b d (w ++ [L[j]])
            refine Ev.bind (ih (w ++ [L[j]]) o (by simp) (by simp; omega) (by omega)) ?_
            have := ihm (j + 1) (o ++ onR n E b d (w ++ [L[j]])) (by omega) (by rw [List.length_append]; omega)
            rw [List.append_assoc] at this
            exact_mod_cast this
      have := hloop L.length 0 out (by omega) (by
        have : L.length * 8 ^ d ≤ 8 * 8 ^ d := Nat.mul_le_mul_right _ (by omega)
        omega)
      rw [List.drop_zero] at this
      exact_mod_cast this
theorem z82 {n : Int} {E : List T} {a b : Int} (h : OK n E) : ∀ (d i : Nat) (out : List (List Int)), i + d = n.toNat → out.length + d * 2097152 ≤ 100000000 →
    Ev (fun k => spec_WayAll.l0 k a b out ((i : Int) + 1) n E) (out ++ ((List.range n.toNat).drop i).flatMap (fun i => onR n E b i [a]))
  | 0, i, out, hd, _ => by
    have h0 := h.n0
    rw [List.drop_of_length_le (by rw [List.length_range]; omega), List.flatMap_nil, List.append_nil]
    refine Ev.succ ?_
    simp only [spec_WayAll.l0]
    exact Ev.neg (by omega) (Ev.now _)
  | d + 1, i, out, hd, ho => by
    have h0 := h.n0
    have h8 := h.n8
    have hi : i < (List.range n.toNat).length := by rw [List.length_range]; omega
    have hl := z81 h8 E b i [a]
    have hp : 8 ^ i ≤ 8 ^ 7 := Nat.pow_le_pow_right (by omega) (by omega)
    have hp7 : (8 : Nat) ^ 7 = 2097152 := by decide
    rw [List.drop_eq_getElem_cons hi, List.flatMap_cons, List.getElem_range]
    refine Ev.succ ?_
    simp only [spec_WayAll.l0]
    rw [w64 (by omega)]
    have key := ev_l2On (b := b) h (size := i + 1) (by omega) i [a] out (by simp) (by simp; omega) (by omega)
    refine Ev.pos (by omega) (Ev.bind (a := out ++ onR n E b i [a]) ?_ ?_)
    · exact_mod_cast key
    · have := z82 (a := a) (b := b) h d (i + 1) (out ++ onR n E b i [a]) (by omega) (by rw [List.length_append]; omega)
      rw [List.append_assoc] at this
      exact_mod_cast this
noncomputable def wayAll (n : Int) (E : List T) (a b : Int) : List (List Int) := if (OK n E ∧ In n a) ∧ (OK n E ∧ In n b) then allW n E a b else []
theorem z83 (n : Int) (E : List T) (a b : Int) : (wayAll n E a b).length ≤ 1000000000 ∧ ∀ w ∈ wayAll n E a b, w.length ≤ 8 := by
  unfold wayAll
  split
  · next h => exact allW_len h.1.1 h.1.2
  · simp
theorem z84 (n : Int) (E : List T) (a b : Int) (hE : E.length ≤ 1048576) (hw : WF E) : Ev (fun k => spec_WayAll.f k n E a b) (wayAll n E a b) := by
  simp only [spec_WayAll.f]
  refine Ev.bind0 (a := []) rfl (Ev.bind (z10 n E a hE hw) ?_)
  unfold wayAll
  by_cases h1 : OK n E ∧ In n a
  · refine Ev.pos (dec_t h1) (Ev.bind (z10 n E b hE hw) (Ev.succ ?_))
    simp only [spec_WayAll.j0]
    by_cases h2 : OK n E ∧ In n b
    · rw [dec_t h2, if_pos ⟨h1, h2⟩, ← z80 h1.1 h1.2]
      have h8 := h1.1.n8
      have := z82 (a := a) (b := b) h1.1 n.toNat 0 [] (by omega) (by simp; omega)
      rw [List.drop_zero, List.nil_append] at this
      exact Ev.neg (by simp) (by exact_mod_cast this)
    · rw [dec_f h2, if_neg (fun k => h2 k.2)]
      exact Ev.pos rfl (Ev.now _)
  · rw [if_neg (fun k => h1 k.1)]
    refine Ev.neg (by rw [dec_f h1]; simp) (Ev.succ ?_)
    simp only [spec_WayAll.j0]
    exact Ev.pos trivial (Ev.now _)
theorem rdL_at (R : List (List Int)) (j : Nat) (hj : j < R.length) : rd_L2 R (j : Int) = R[j] := by
  unfold rd_L2
  rw [List.getD_eq_getElem?_getD, Int.toNat_natCast, List.getElem?_eq_getElem hj]
  rfl
end Go.Proofs.Ytffflhmblelegaa.Th
namespace Go.Proofs.Ytffflhmblelegaa.Th
open Go.RowKit Go.Proofs.YtffflhmblelegaaW.PrintWords Go.Proofs.YtffflhmblelegaaW.PrintLast Go.Proofs.YtffflhmblelegaaW.PrintMore Go.Proofs.Ytffflhmblelegaa.F
theorem z85 {s : List Int} (h : Bytes s) (w : List Int) (hw : 0 < w.length ∧ w.length ≤ 20) (p : Int) (hp : 0 ≤ p) (hq : p ≤ 60000) : ∃ w' p', Ev (fun k => spec_l71Walk.j2 k w s p) (w', p') ∧ w'.length ≤ 20 ∧ 0 ≤ p' ∧ p' ≤ p + 3 := by
  obtain ⟨v, hv, _⟩ := ev_pick h (p := p) ⟨hp, by omega⟩ 16 (by omega)
  by_cases e : v = 0
  · obtain ⟨u, hu, hu1, _⟩ := ev_pick h (p := p + 1) ⟨by omega, by omega⟩ (w.length : Int) (by omega)
    obtain ⟨z, hz, _⟩ := ev_pick h (p := p + 1 + 1) ⟨by omega, by omega⟩ 9 (by omega)
    have hu2 := hu1 (by omega)
    refine ⟨w.set u.toNat z, p + 1 + 1 + 1, Ev.succ ?_, by rw [List.length_set]; omega, by omega, by omega⟩
    simp only [spec_l71Walk.j2]
    exact Ev.bind hv (Ev.pos e (Ev.bind hu (Ev.bind hz (Ev.pos hu2.1 (Ev.pos hu2.2 (Ev.now _))))))
  · by_cases e1 : v = 1
    · refine ⟨[], p + 1, Ev.succ ?_, by simp, by omega, by omega⟩
      simp only [spec_l71Walk.j2]
      exact Ev.bind hv (Ev.neg e (Ev.pos e1 (Ev.now _)))
    · refine ⟨w, p + 1, Ev.succ ?_, by omega, by omega, by omega⟩
      simp only [spec_l71Walk.j2]
      exact Ev.bind hv (Ev.neg e (Ev.neg e1 (Ev.now _)))
theorem z86 {s : List Int} (h : Bytes s) {n : Int} {E : List T} (hs : Small n E) : ∀ (d : Nat) (i : Int) (w : List Int) (p : Int), i ≤ d → 0 < w.length → w.length + d ≤ 20 → 0 ≤ p → p + 3 * d ≤ 50000 → ∃ w' p', Ev (fun k => spec_l71Walk.l0 k w i s p n E) (w', p') ∧ w'.length ≤ 20 ∧ 0 ≤ p' ∧ p' ≤ p + 3 * d + 3 := by
  intro d
  induction d with
  | zero =>
    intro i w p hi hw hl hp hq
    obtain ⟨w2, p2, h2, hw2, hp2, hq2⟩ := z85 h w ⟨hw, by omega⟩ p hp (by omega)
    refine ⟨w2, p2, Ev.succ ?_, hw2, hp2, by omega⟩
    simp only [spec_l71Walk.l0]
    exact Ev.neg (by omega) h2
  | succ d ih =>
    intro i w p hi hw hl hp hq
    by_cases hi0 : i > 0
    · have hj1 : ∀ (L : List Int), L.length ≤ 100 → ∃ w' p', Ev (fun k => spec_l71Walk.j1 k w i L s p n E) (w', p') ∧ w'.length ≤ 20 ∧ 0 ≤ p' ∧ p' ≤ p + 3 * ((d + 1 : Nat) : Int) + 3 := fun L hL => by
        by_cases hL0 : (L.length : Int) = 0
        · obtain ⟨w2, p2, h2, hw2, hp2, hq2⟩ := z85 h w ⟨hw, by omega⟩ p hp (by omega)
          refine ⟨w2, p2, Ev.succ ?_, hw2, hp2, by omega⟩
          simp only [spec_l71Walk.j1]
          exact Ev.pos hL0 h2
        · obtain ⟨v, hv, hv1, _⟩ := ev_pick h (p := p) ⟨hp, by omega⟩ (L.length : Int) (by omega)
          have hv2 := hv1 (by omega)
          by_cases hin : rd L v ∈ w
          · obtain ⟨u, hu, _⟩ := ev_pick h (p := p + 1) ⟨by omega, by omega⟩ 6 (by omega)
            by_cases hu0 : u > 0
            · obtain ⟨w2, p2, h2, hw2, hp2, hq2⟩ := ih (i - 1) w (p + 1 + 1) (by omega) hw (by omega) (by omega) (by omega)
              refine ⟨w2, p2, Ev.succ ?_, hw2, hp2, by omega⟩
              simp only [spec_l71Walk.j1]
              refine Ev.neg hL0 (Ev.bind hv (Ev.pos hv2.1 (Ev.pos hv2.2 (Ev.bind (ev_l2Has w (rd L v) (by omega)) (Ev.pos (dec_t hin) (Ev.bind hu (Ev.pos hu0 ?_)))))))
              rw [w64 (by omega)]
              exact h2
            · obtain ⟨w2, p2, h2, hw2, hp2, hq2⟩ := ih (i - 1) (w ++ [rd L v]) (p + 1 + 1) (by omega) (by simp) (by simp; omega) (by omega) (by omega)
              refine ⟨w2, p2, Ev.succ ?_, hw2, hp2, by omega⟩
              simp only [spec_l71Walk.j1]
              refine Ev.neg hL0 (Ev.bind hv (Ev.pos hv2.1 (Ev.pos hv2.2 (Ev.bind (ev_l2Has w (rd L v) (by omega)) (Ev.pos (dec_t hin) (Ev.bind hu (Ev.neg hu0 (Ev.pos (by omega) ?_))))))))
              rw [w64 (by omega)]
              exact h2
          · obtain ⟨w2, p2, h2, hw2, hp2, hq2⟩ := ih (i - 1) (w ++ [rd L v]) (p + 1) (by omega) (by simp) (by simp; omega) (by omega) (by omega)
            refine ⟨w2, p2, Ev.succ ?_, hw2, hp2, by omega⟩
            simp only [spec_l71Walk.j1]
            refine Ev.neg hL0 (Ev.bind hv (Ev.pos hv2.1 (Ev.pos hv2.2 (Ev.bind (ev_l2Has w (rd L v) (by omega)) (Ev.neg (by rw [dec_f hin]; simp) (Ev.pos (by omega) ?_))))))
            rw [w64 (by omega)]
            exact h2
      by_cases hk : OK n E ∧ In n (rd w ((w.length : Int) - 1))
      · have h8 := hk.1.n8
        have hnl := z73 n E (rd w ((w.length : Int) - 1))
        obtain ⟨w2, p2, h2, hw2, hp2, hq2⟩ := hj1 (nextL n E (rd w ((w.length : Int) - 1))) (by omega)
        refine ⟨w2, p2, Ev.succ ?_, hw2, hp2, hq2⟩
        simp only [spec_l71Walk.l0]
        rw [w64 (by omega)]
        exact Ev.pos hi0 (Ev.pos (by omega) (Ev.pos (by omega) (Ev.bind (z10 n E _ hs.le hs.wf) (Ev.pos (dec_t hk) (Ev.bind (z75 _ hs.le hk.1.n0 (by omega)) h2)))))
      · obtain ⟨w2, p2, h2, hw2, hp2, hq2⟩ := hj1 [] (by simp)
        refine ⟨w2, p2, Ev.succ ?_, hw2, hp2, hq2⟩
        simp only [spec_l71Walk.l0]
        rw [w64 (by omega)]
        exact Ev.pos hi0 (Ev.pos (by omega) (Ev.pos (by omega) (Ev.bind (z10 n E _ hs.le hs.wf) (Ev.neg (by rw [dec_f hk]; simp) h2))))
    · obtain ⟨w2, p2, h2, hw2, hp2, hq2⟩ := z85 h w ⟨hw, by omega⟩ p hp (by omega)
      refine ⟨w2, p2, Ev.succ ?_, hw2, hp2, by omega⟩
      simp only [spec_l71Walk.l0]
      exact Ev.neg hi0 h2
theorem z87 {s : List Int} (h : Bytes s) {n : Int} {E : List T} (hs : Small n E) (p : Int) (hp : 0 ≤ p) (hq : p ≤ 40000) : ∃ w p', Ev (fun k => spec_l71Walk.f k s p n E) (w, p') ∧ w.length ≤ 20 ∧ 0 ≤ p' ∧ p' ≤ p + 30 := by
  obtain ⟨a, p1, h1, _, hp1, hq1⟩ := z63 h p hp (by omega) hs
  obtain ⟨v, hv, hv1, _⟩ := ev_pick h (p := p1) ⟨hp1, by omega⟩ 7 (by omega)
  have hv2 := hv1 (by omega)
  obtain ⟨w, p2, h2, hw, hp2, hq2⟩ := z86 h hs 7 v [a] (p1 + 1) (by omega) (by simp) (by simp) (by omega) (by omega)
  refine ⟨w, p2, ?_, hw, hp2, by omega⟩
  simp only [spec_l71Walk.f]
  exact Ev.bind h1 (Ev.bind hv h2)
theorem z88 {s : List Int} (hs : Bytes s) {n : Int} {E : List T} (hn : Small n E) {a b : Int} {R W : List (List Int)} {i : Int} (hW : W.length ≤ 3) (hr : ∀ w ∈ W, w.length ≤ 20) (p : Int) (hp : 0 ≤ p) (hq : p ≤ 30000) :
    ∃ V, Ev (fun k => spec_DrawFlowOk.j1 k a b R W i false s p n E) (n, E, a, b, V) ∧ V.length ≤ 4 ∧ ∀ w ∈ V, w.length ≤ 20 := by
  obtain ⟨v, hv, _⟩ := ev_pick hs (p := p) ⟨hp, by omega⟩ 12 (by omega)
  by_cases e : v = 0
  · obtain ⟨x, p1, h1, hx, _, _⟩ := z87 hs hn (p + 1) (by omega) (by omega)
    refine ⟨W ++ [x], Ev.succ ?_, by simp; omega, fun w hw => ?_⟩
    · simp only [spec_DrawFlowOk.j1]
      exact Ev.neg (by simp) (Ev.bind hv (Ev.pos e (Ev.bind h1 (Ev.pos (by omega) (Ev.now _)))))
    · rcases List.mem_append.1 hw with h | h
      · exact hr w h
      · rw [List.mem_singleton.1 h]; exact hx
  · refine ⟨W, Ev.succ ?_, by omega, hr⟩
    simp only [spec_DrawFlowOk.j1]
    exact Ev.neg (by simp) (Ev.bind hv (Ev.neg e (Ev.now _)))
theorem z89 {s : List Int} (hs : Bytes s) {n : Int} {E : List T} (hn : Small n E) {a b : Int} {R : List (List Int)} (hR : R.length ≤ 1000000000) (hl : ∀ w ∈ R, w.length ≤ 8) : ∀ (d : Nat) (i : Int) (W : List (List Int)) (p : Int), i ≤ d → W.length + d ≤ 3 → (∀ w ∈ W, w.length ≤ 20) → 0 ≤ p → p + 2 * d ≤ 20000 →
    ∃ V, Ev (fun k => spec_DrawFlowOk.l0 k a b R W i s p n E) (n, E, a, b, V) ∧ V.length ≤ 4 ∧ ∀ w ∈ V, w.length ≤ 20
  | 0, i, W, p, hi, hd, hr, hp, hq => by
    obtain ⟨V, hV, h⟩ := z88 (i := i) (R := R) (a := a) (b := b) hs hn (show W.length ≤ 3 by omega) hr p hp (by omega)
    refine ⟨V, Ev.succ ?_, h⟩
    simp only [spec_DrawFlowOk.l0]
    exact Ev.neg (by omega) hV
  | d + 1, i, W, p, hi, hd, hr, hp, hq => by
    obtain ⟨V, hV, h⟩ := z88 (i := i) (R := R) (a := a) (b := b) hs hn (show W.length ≤ 3 by omega) hr p hp (by omega)
    by_cases h0 : i > 0
    · by_cases h1 : (R.length : Int) > 0
      · obtain ⟨v, hv, hv1, _⟩ := ev_pick hs (p := p) ⟨hp, by omega⟩ (R.length : Int) (by omega)
        have hv2 := hv1 (by omega)
        obtain ⟨u, hu, _⟩ := ev_pick hs (p := p + 1) ⟨by omega, by omega⟩ 3 (by omega)
        obtain ⟨j, rfl⟩ : ∃ j : Nat, v = j := ⟨v.toNat, by omega⟩
        have hj : j < R.length := by omega
        have hRj := hl _ (List.getElem_mem hj)
        have hw1 : ∀ w ∈ W ++ [R[j]], w.length ≤ 20 := fun w hw => by
          rcases List.mem_append.1 hw with h | h
          · exact hr w h
          · rw [List.mem_singleton.1 h]; omega
        obtain ⟨V1, k1, q1⟩ := z89 hs hn (a := a) (b := b) hR hl d (i - 1) (W ++ [R[j]]) (p + 1 + 1) (by omega) (by simp; omega) hw1 (by omega) (by omega)
        obtain ⟨V2, k2, q2⟩ := z89 hs hn (a := a) (b := b) hR hl d (i - 1) W (p + 1 + 1) (by omega) (by omega) hr (by omega) (by omega)
        have e0 : rd_L2 R (j : Int) = R[j] := rdL_at _ j hj
        by_cases hu0 : u > 0
        · by_cases ok : FlowOkP n E a b ([] ++ W ++ [R[j]])
          · refine ⟨V1, Ev.succ ?_, q1⟩
            simp only [spec_DrawFlowOk.l0]
            refine Ev.pos h0 (Ev.succ ?_)
            simp only [spec_DrawFlowOk.j1]
            refine Ev.pos (decide_eq_true h1) (Ev.bind hv ?_)
            dsimp only
            rw [e0]
            refine (Ev.pos (by omega) (Ev.pos (by omega) (Ev.bind hu (Ev.pos hu0 (Ev.bind0 rfl (Ev.pos (by simp; omega) (Ev.bind0 rfl (Ev.bind0 rfl (Ev.pos (by simp; omega) ?_)))))))))
            refine Ev.bind (z43 n E a b ([] ++ W ++ [R[j]]) hn.le hn.wf (by simp; omega) (fun w hw => by rw [List.nil_append] at hw; have := hw1 w hw; omega)) ?_
            refine Ev.pos (dec_t ok) (Ev.pos (by omega) ?_)
            rw [w64 (by omega)]
            exact k1
          · refine ⟨V2, Ev.succ ?_, q2⟩
            simp only [spec_DrawFlowOk.l0]
            refine Ev.pos h0 (Ev.succ ?_)
            simp only [spec_DrawFlowOk.j1]
            refine Ev.pos (decide_eq_true h1) (Ev.bind hv ?_)
            dsimp only
            rw [e0]
            refine (Ev.pos (by omega) (Ev.pos (by omega) (Ev.bind hu (Ev.pos hu0 (Ev.bind0 rfl (Ev.pos (by simp; omega) (Ev.bind0 rfl (Ev.bind0 rfl (Ev.pos (by simp; omega) ?_)))))))))
            refine Ev.bind (z43 n E a b ([] ++ W ++ [R[j]]) hn.le hn.wf (by simp; omega) (fun w hw => by rw [List.nil_append] at hw; have := hw1 w hw; omega)) ?_
            refine Ev.neg (by rw [dec_f ok]; simp) ?_
            rw [w64 (by omega)]
            exact k2
        · refine ⟨V1, Ev.succ ?_, q1⟩
          simp only [spec_DrawFlowOk.l0]
          refine Ev.pos h0 (Ev.succ ?_)
          simp only [spec_DrawFlowOk.j1]
          refine Ev.pos (decide_eq_true h1) (Ev.bind hv ?_)
          dsimp only
          rw [e0]
          refine (Ev.pos (by omega) (Ev.pos (by omega) (Ev.bind hu (Ev.neg hu0 (Ev.pos (by omega) ?_)))))
          rw [w64 (by omega)]
          exact k1
      · refine ⟨V, Ev.succ ?_, h⟩
        simp only [spec_DrawFlowOk.l0]
        refine Ev.pos h0 ?_
        rw [decide_eq_false h1]
        exact hV
    · refine ⟨V, Ev.succ ?_, h⟩
      simp only [spec_DrawFlowOk.l0]
      exact Ev.neg h0 hV
theorem z90 (l : List Int) (hl : l.length ≤ maxLen ∧ ∀ x ∈ l, (Lit.int .u8 x).wf = true) : ∃ n E a b W, Ev (fun k => spec_DrawFlowOk.f k l) (n, E, a, b, W) ∧ Small n E ∧ W.length ≤ 4 ∧ ∀ w ∈ W, w.length ≤ 20 := by
  obtain ⟨s, ho, hs⟩ := l6Open l hl
  obtain ⟨n, E, a, b, p, h1, hn, _, _, hp, hq⟩ := z64 hs 0 (by omega) (by omega)
  obtain ⟨w1, w2⟩ := z83 n E a b
  obtain ⟨v, hv, hv1, _⟩ := ev_pick hs (p := p) ⟨hp, by omega⟩ 4 (by omega)
  have hv2 := hv1 (by omega)
  obtain ⟨V, k, q⟩ := z89 hs hn (a := a) (b := b) w1 w2 3 v [] (p + 1) (by omega) (by simp) (by simp) (by omega) (by omega)
  refine ⟨n, E, a, b, V, ?_, hn, q⟩
  simp only [spec_DrawFlowOk.f]
  exact Ev.bind0 ho (Ev.bind h1 (Ev.bind (z84 n E a b hn.le hn.wf) (Ev.bind hv k)))
end Go.Proofs.Ytffflhmblelegaa.Th
namespace Go.Proofs.Ytffflhmblelegaa.Pure
open Go.RowKit Go.Proofs.YtffflhmblelegaaW.PrintWords Go.Proofs.YtffflhmblelegaaW.PrintLast Go.Proofs.YtffflhmblelegaaW.PrintMore Go.Proofs.Ytffflhmblelegaa.F Go.Proofs.Ytffflhmblelegaa.Th
theorem z91 (w : List Int) (hw : w.length ≤ 1000) : ∀ (d : Nat) (out : List Int), d ≤ w.length → out.length + d ≤ 1000 → Ev (fun k => laws_loBack.l0 k w out ((d : Int) - 1)) (out ++ (w.take d).reverse)
  | 0, out, _, _ => by
    refine Ev.succ ?_
    simp only [laws_loBack.l0]
    exact Ev.neg (by omega) (Ev.some_ (by simp))
  | d + 1, out, hd, ho => by
    have hi : d < w.length := by omega
    refine Ev.succ ?_
    simp only [laws_loBack.l0]
    rw [show ((d + 1 : Nat) : Int) - 1 = (d : Int) by omega, z18 w d hi, w64 (by omega)]
    refine Ev.pos (by omega) (Ev.pos (by omega) (Ev.pos (by omega) (Ev.pos (by omega) (Ev.cast (z91 w hw d (out ++ [w[d]]) (by omega) (by simp; omega)) ?_))))
    rw [← List.take_append_getElem hi, List.reverse_append, List.append_assoc]
    rfl
theorem z92 (w : List Int) (hw : w.length ≤ 1000) : Ev (fun k => laws_loBack.f k w) w.reverse := by
  simp only [laws_loBack.f]
  have := z91 w hw w.length [] (by omega) (by simp; omega)
  rw [List.take_length, List.nil_append] at this
  rw [w64 (by omega)]
  exact this
theorem z93 {n : Int} {E : List T} {a b : Int} {W : List (List Int)} (hW : W.length ≤ 8) (hr : ∀ w ∈ W, w.length ≤ 20) {m : Int} {r : Bool} : ∀ (d : Nat) (out : List (List Int)), d ≤ W.length → out.length + d ≤ 8 →
    Ev (fun k => laws_FnFlowOk.l0 k a b W m (out ++ (W.take d).reverse.map List.reverse) (-1) n E) r → Ev (fun k => laws_FnFlowOk.l0 k a b W m out ((d : Int) - 1) n E) r
  | 0, out, _, _, hk => by
    rw [show ((0 : Nat) : Int) - 1 = -1 by omega]
    simpa using hk
  | d + 1, out, hd, ho, hk => by
    have hi : d < W.length := by omega
    have hl := hr _ (List.getElem_mem hi)
    have ih := z93 (n := n) (E := E) (a := a) (b := b) hW hr (m := m) (r := r) d (out ++ [W[d].reverse]) (by omega) (by simp; omega) (by
      rw [← List.take_append_getElem hi, List.reverse_append, List.map_append] at hk
      rw [List.append_assoc]
      exact hk)
    refine Ev.succ ?_
    simp only [laws_FnFlowOk.l0]
    rw [show ((d + 1 : Nat) : Int) - 1 = (d : Int) by omega, z34 W d hi, w64 (x := (d : Int) - 1) (by omega)]
    exact Ev.pos (by omega) (Ev.pos (by omega) (Ev.pos (by omega) (Ev.bind (z92 W[d] (by omega)) (Ev.pos (by omega) ih))))
theorem z94 {n : Int} {E : List T} {a b : Int} {W : List (List Int)} (hE : E.length ≤ 1048576) (hW : W.length ≤ 8) (hr : ∀ w ∈ W, w.length ≤ 20) (ok : FlowOkP n E a b W) {m : Nat} (hm : m < W.length) :
    Ev (fun k => laws_FnFlowOk.l0 k a b W m (W.reverse.map List.reverse) (-1) n E) true := by
  have hr2 : ∀ w ∈ W, w.length ≤ 1048576 := fun w hw => by have := hr w hw; omega
  have hb2 : ∀ w ∈ W.reverse.map List.reverse, w.length ≤ 1048576 := fun w hw => by
    obtain ⟨v, hv, rfl⟩ := List.mem_map.1 hw
    rw [List.length_reverse]
    exact hr2 v (List.mem_reverse.1 hv)
  have s := sub_less W m
  have h1 : FlowOkP n E a b ([] ++ W.take m ++ W.drop (m + 1)) := by rw [List.nil_append]; exact ok.sub s
  have h3 : ¬ FlowOkP n E a b ([] ++ W ++ [W[m]]) := by rw [List.nil_append]; exact z49 ok (List.getElem_mem hm)
  have l1 : (W.take m).length ≤ 8 := by rw [List.length_take]; omega
  have l2 : (W.drop (m + 1)).length ≤ 8 := by rw [List.length_drop]; omega
  have e2 : ((m : Int) + 1).toNat = m + 1 := by omega
  refine Ev.succ ?_
  simp only [laws_FnFlowOk.l0]
  rw [w64 (x := (m : Int) + 1) (by omega), Int.toNat_natCast, e2, z34 W m hm]
  refine Ev.neg (by omega) (Ev.bind0 rfl (Ev.pos (by omega) (Ev.pos (by omega) (Ev.bind0 rfl (Ev.pos (by simp only [List.length_nil]; omega) (Ev.bind0 rfl (Ev.pos (by omega) (Ev.pos (by omega) (Ev.bind0 rfl (Ev.pos (by rw [List.nil_append]; omega) ?_))))))))))
  refine Ev.bind (z47 n E a b ([] ++ W.take m ++ W.drop (m + 1)) hE (fun w hw => hr2 w (s.subset (by rwa [List.nil_append] at hw)))) (Ev.pos (dec_t h1) (Ev.bind (z47 n E b a _ hE hb2) (Ev.pos (dec_t ok.rev) (Ev.bind0 rfl (Ev.pos (by simp only [List.length_nil]; omega) (Ev.bind0 rfl (Ev.pos (by omega) (Ev.bind0 rfl (Ev.pos (by simp; omega) ?_)))))))))
  refine Ev.bind (z47 n E a b ([] ++ W ++ [W[m]]) hE (fun w hw => ?_)) (Ev.some_ (by rw [dec_f h3]; rfl))
  rw [List.nil_append] at hw
  rcases List.mem_append.1 hw with h | h
  · exact hr2 w h
  · rw [List.mem_singleton.1 h]; exact hr2 _ (List.getElem_mem hm)
theorem FnFlowOk : laws_FnFlowOk.Pure := by
  intro l l1 hl hl1
  refine Ev.rounds (g := fun k => laws_FnFlowOk.f k l l1) ?_
  simp only [laws_FnFlowOk.f]
  have key : ∀ c, Ev (fun k => laws_FnFlowOk.j0 k l l1 c) true := by
    intro c
    refine Ev.succ ?_
    simp only [laws_FnFlowOk.j0]
    cases c with
    | true => exact Ev.pos rfl (Ev.now _)
    | false =>
      obtain ⟨n, E, a, b, W, hd, hn, hW, hr⟩ := z90 l hl
      have hr2 : ∀ w ∈ W, w.length ≤ 1048576 := fun w hw => by have := hr w hw; omega
      have hs := z43 n E a b W hn.le hn.wf (by omega) hr2
      have odd : Ev (fun k => laws_FnFlowOk.j1 k l1 a b W (dec (FlowOkP n E a b W)) true n E) true := by
        refine Ev.succ ?_
        simp only [laws_FnFlowOk.j1]
        exact Ev.pos trivial (Ev.bind hs (Ev.some_ (by simp)))
      refine Ev.neg (by simp) (Ev.bind hd (Ev.bind (z47 n E a b W hn.le hr2) (Ev.bind hs (Ev.neg (by simp) ?_))))
      by_cases ok : FlowOkP n E a b W
      · refine Ev.pos (dec_t ok) ?_
        by_cases h0 : W.length = 0
        · have e : ((W.length : Int) == 0) = true := by rw [h0]; rfl
          rw [e]; exact odd
        · have e : ((W.length : Int) == 0) = false := by rw [beq_eq_false_iff_ne]; omega
          rw [e]
          obtain ⟨m, hmW, hm⟩ : ∃ m : Nat, m < W.length ∧ ((l1.length : Int) % (W.length : Int)) = (m : Int) := ⟨l1.length % W.length, Nat.mod_lt _ (by omega), by rw [Int.natCast_emod]⟩
          refine Ev.succ ?_
          simp only [laws_FnFlowOk.j1]
          rw [hm, w64 (x := (W.length : Int) - 1) (by omega)]
          refine Ev.neg (by simp) (Ev.neg (by omega) ?_)
          have := z93 (n := n) (E := E) (a := a) (b := b) (show W.length ≤ 8 by omega) hr (m := (m : Int)) (r := true) W.length [] (by omega) (by simp; omega) (by
            rw [List.take_length, List.nil_append]
            exact z94 hn.le (by omega) hr ok hmW)
          exact this
      · exact Ev.neg (by rw [dec_f ok]; simp) odd
  by_cases h1 : (l.length : Int) > 1048576
  · exact Ev.pos h1 (key true)
  · exact Ev.neg h1 (key _)
end Go.Proofs.Ytffflhmblelegaa.Pure
