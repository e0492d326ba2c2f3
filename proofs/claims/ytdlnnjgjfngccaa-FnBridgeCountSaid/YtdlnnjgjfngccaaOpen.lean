/-
Whatever reads as data of a type is told by the print's kinds (Kd): numbers, slices, structs of two fields, nested as one likes. For the rows of laws.
-/
import Derived.Test.YtdlnnjgjfngccaaWs
import Derived.WalkKit
import Derived.ProofKit
import Derived.Deep.Slices
import Derived.ChangeSame
namespace Go.Proofs.Ytdlnnjgjfngccaa.Op
open Go.ChangeShapes Go.WideShapes Go.Deep Go.Proofs.YtdlnnjgjfngccaaW.PrintWords

/-- Whatever reads as data of type t is told by the kind d, and I holds of it. -/
def Opens {α : Type} (P : Program) (t : TypeId) (d : Kd α) (I : α → Prop) : Prop :=
  ∀ {H : Type} (enc : TypeId × Value → H) (W : World) (base : Nat) (held : Bool) (fuel : Nat) (cs : List Value) (x : DataW H × List MemPlace),
    DataW.trod enc P W base (fun _ => true) held fuel t cs = some x → ∃ a, I a ∧ d.K W a cs

theorem opens_int {P : Program} {t : TypeId} {k : IntKind} (ht : P.underlying t = some (.int k)) : Opens P t (Kd.int k) (fun x => (Lit.int k x).wf = true) := by
  intro H enc W base held fuel cs x h
  obtain ⟨n, rfl, _, hw⟩ := DataW.trod_int ht h
  exact ⟨n, hw, rfl⟩

theorem opens_pair {α β : Type} {P : Program} {t : TypeId} {f0 f1 : Field} {d0 : Kd α} {d1 : Kd β} {I0 : α → Prop} {I1 : β → Prop} (ht : P.underlying t = some (.struct #[f0, f1]))
    (h0 : Opens P f0.type d0 I0) (h1 : Opens P f1.type d1 I1) (o0 : f0.offset = 0) (o1 : f1.offset = P.cellsOf f0.type) (hC : P.cellsOf t = P.cellsOf f0.type + P.cellsOf f1.type) :
    Opens P t (Kd.pair d0 d1) (fun x => I0 x.1 ∧ I1 x.2) := by
  intro H enc W base held fuel cs x h
  obtain ⟨y0, y1, n, _, hl, g0, g1⟩ := trod_struct2 ht h
  obtain ⟨a0, i0, k0⟩ := h0 enc W base held n _ _ g0
  obtain ⟨a1, i1, k1⟩ := h1 enc W base held n _ _ g1
  refine ⟨(a0, a1), ⟨i0, i1⟩, _, _, ?_, k0, k1⟩
  rw [o0, o1, List.drop_zero, List.take_of_length_le (l := cs.drop _) (by rw [List.length_drop]; omega), List.take_append_drop]

theorem opens_iso {α β : Type} {P : Program} {t : TypeId} {d : Kd α} {I : α → Prop} (f : β → α) (g : α → β) (hf : ∀ a, f (g a) = a) (h : Opens P t d I) : Opens P t (Kd.iso d f) (fun b => I (f b)) := by
  intro H enc W base held fuel cs x hx
  obtain ⟨a, i, k⟩ := h enc W base held fuel cs x hx
  refine ⟨g a, ?_, ?_⟩
  · show I (f (g a))
    rw [hf]; exact i
  · show d.K W (f (g a)) cs
    rw [hf]; exact k

theorem opens_slice {α : Type} [Inhabited α] {P : Program} {t e : TypeId} {d : Kd α} {I : α → Prop} (ht : P.underlying t = some (.slice e)) (hC : P.cellsOf e = d.sz) (h : Opens P e d I) :
    Opens P t (Kd.slice e d) (fun l => l.length ≤ maxLen ∧ ∀ x ∈ l, I x) := by
  intro H enc W base held fuel cs x hx
  rcases open_slice ht hx with ⟨rfl, _⟩ | ⟨a, len, cap, m, n, D, Pl, rfl, hb, hl, hm, hmm, _, hi⟩
  · exact ⟨[], ⟨Nat.zero_le _, fun _ h => by cases h⟩, none, 0, rfl, Nat.le_refl _, rfl, Nat.zero_le _, fun h => absurd h (Nat.lt_irrefl 0)⟩
  · simp only [if_true] at hmm
    rw [hmm] at hi
    clear hmm
    have each : ∀ i, i < len → ∃ y : α, I y ∧ ∃ cs', cs'.length = d.sz ∧ d.K W y cs' ∧ ∀ j u, cs'[j]? = some u → W.cell? (a.add (i * d.sz + j)) = some u := by
      intro i hi'
      obtain ⟨cs', hc, hd⟩ := hi i (by omega)
      obtain ⟨y, iy, ky⟩ := h enc W base held n _ _ hd
      rw [hC] at hc
      obtain ⟨_, hcl, hat⟩ := World.cells?_some hc
      refine ⟨y, iy, cs', hcl, ky, fun j u hu => ?_⟩
      have hj := (List.getElem?_eq_some_iff.1 hu).1
      rw [← Go.Deep.add_add, hat j (by omega), hu]
    obtain ⟨f, hf⟩ := choose_lt each
    refine ⟨(List.range len).map f, ⟨by simpa using Nat.le_trans hl hm, ?_⟩, some a, cap, ?_, ?_, rfl, ?_, ?_⟩
    · intro x hx
      obtain ⟨i, hi', rfl⟩ := List.mem_map.1 hx
      exact (hf i (List.mem_range.1 hi')).1
    · simp
    · simpa using hl
    · have := Nat.le_trans hl hm
      unfold maxLen at this
      simpa using this
    · intro _
      refine ⟨a, rfl, fun j p hj => ?_⟩
      obtain ⟨hj', rfl⟩ := List.getElem?_eq_some_iff.1 hj
      simp only [List.getElem_map, List.getElem_range]
      obtain ⟨_, cs', h1, h2, h3⟩ := hf j (by simpa using hj')
      exact ⟨cs', h1, h2, h3⟩

/-- A slice as an argument. -/
theorem Opens.asSlice {H : Type} {enc : TypeId × Value → H} {α : Type} {P : Program} {t e : TypeId} {d : Kd α} {I : List α → Prop} (h : Opens P t (Kd.slice e d) I) {W : World} {base : Nat} {held : Bool} {A : Option Addr} {n c : Nat} {x : DataW H} {ps : List MemPlace}
    (hx : DataW.Trod enc P W base (fun _ => true) held t (.slice A n c) x ps) : ∃ l, n = l.length ∧ I l ∧ l.length ≤ c ∧ d.C W A l.length l := by
  obtain ⟨fuel, hf⟩ := hx
  obtain ⟨l, il, A', c', hcs, hl, hC⟩ := h enc W base held fuel _ _ hf
  simp only [Value.cells, List.cons.injEq, and_true, Value.slice.injEq] at hcs
  obtain ⟨rfl, rfl, rfl⟩ := hcs
  exact ⟨l, rfl, il, hl, hC⟩

/-- A struct as an argument. -/
theorem Opens.asStruct {H : Type} {enc : TypeId × Value → H} {α : Type} {P : Program} {t : TypeId} {d : Kd α} {I : α → Prop} (h : Opens P t d I) {W : World} {base : Nat} {held : Bool} {cs : Array Value} {x : DataW H} {ps : List MemPlace}
    (hx : DataW.Trod enc P W base (fun _ => true) held t (.agg cs) x ps) : ∃ a, I a ∧ d.K W a cs.toList := by
  obtain ⟨fuel, hf⟩ := hx
  exact h enc W base held fuel _ _ hf
end Go.Proofs.Ytdlnnjgjfngccaa.Op
