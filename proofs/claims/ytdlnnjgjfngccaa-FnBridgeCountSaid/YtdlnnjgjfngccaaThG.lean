/-
Graphs in plain words: what is come to from where; the least of a part; the labels of all.
-/
import Derived.Test.YtdlnnjgjfngccaaTh1
import Derived.Test.YtdlnnjgjfngccaaThU
namespace Go.Proofs.Ytdlnnjgjfngccaa.Th
open Go.RowKit Go.Proofs.YtdlnnjgjfngccaaW.PrintWords Go.Proofs.YtdlnnjgjfngccaaW.PrintLast Go.Proofs.YtdlnnjgjfngccaaW.PrintMore Go.Proofs.Ytdlnnjgjfngccaa.F

/-- The second is come to from the first. -/
inductive Conn (E : List T) : Int → Int → Prop
  | refl (a : Int) : Conn E a a
  | step {a b c : Int} : Conn E a b → Has E b c → Conn E a c
theorem Conn.one {E : List T} {a b : Int} (h : Has E a b) : Conn E a b := .step (.refl a) h
theorem Conn.trans {E : List T} {a b c : Int} (h : Conn E a b) (k : Conn E b c) : Conn E a c := by
  induction k with
  | refl => exact h
  | step _ m ih => exact .step ih m
theorem Conn.symm {E : List T} {a b : Int} (h : Conn E a b) : Conn E b a := by
  induction h with
  | refl => exact .refl _
  | step _ m ih => exact (Conn.one m.symm).trans ih
theorem Conn.comm {E : List T} {a b : Int} : Conn E a b ↔ Conn E b a := ⟨Conn.symm, Conn.symm⟩
theorem Conn.mono {E F : List T} (h : ∀ t, t ∈ E → t ∈ F) {a b : Int} (k : Conn E a b) : Conn F a b := by
  induction k with
  | refl => exact .refl _
  | step _ m ih => exact .step ih (h _ m)
theorem Conn.congr {E F : List T} (h : ∀ t, t ∈ E ↔ t ∈ F) {a b : Int} : Conn E a b ↔ Conn F a b := ⟨Conn.mono fun t => (h t).1, Conn.mono fun t => (h t).2⟩
/-- What ties keep, what is come to keeps. -/
theorem Conn.keeps {E : List T} {P : Int → Prop} (h : ∀ a b, Has E a b → P a → P b) {a b : Int} (k : Conn E a b) (ha : P a) : P b := by
  induction k with
  | refl => exact ha
  | step _ m ih => exact h _ _ m ih
theorem Conn.inNet {n : Int} {E : List T} (h : OK n E) {a b : Int} (k : Conn E a b) (ha : In n a) : In n b := k.keeps (fun _ _ m _ => (h.has m).2.1) ha
theorem Conn.first {E : List T} {a b : Int} (h : Conn E a b) : a = b ∨ ∃ c, Has E a c ∧ Conn E c b := by
  induction h with
  | refl => exact Or.inl rfl
  | step m hb ih =>
    rcases ih with rfl | ⟨c, h1, h2⟩
    · exact Or.inr ⟨_, hb, .refl _⟩
    · exact Or.inr ⟨c, h1, .step h2 hb⟩
/-- If the ties of one net lead in another one, so does all. -/
theorem Conn.sub {E F : List T} (h : ∀ a b, Has E a b → Conn F a b) {a b : Int} (k : Conn E a b) : Conn F a b := by
  induction k with
  | refl => exact .refl _
  | step _ m ih => exact ih.trans (h _ _ m)
theorem tie_self {n : Int} {E : List T} (h : OK n E) {t : T} (ht : t ∈ E) : tie t.f0 t.f1 = t := by
  have := h.tie t ht
  unfold tie
  rw [if_pos (by omega)]
theorem has_of_mem {n : Int} {E : List T} (h : OK n E) {t : T} (ht : t ∈ E) : Has E t.f0 t.f1 := by
  unfold Has; rw [tie_self h ht]; exact ht
theorem tie_of_mem {t : T} (h : t.f0 < t.f1) : tie t.f0 t.f1 = t := by unfold tie; rw [if_pos h]
theorem tie_eq_iff {a b : Int} {t : T} (h : t.f0 < t.f1) : tie a b = t ↔ (a = t.f0 ∧ b = t.f1) ∨ (a = t.f1 ∧ b = t.f0) := by
  constructor
  · intro e
    unfold tie at e
    split at e <;> subst e
    · exact Or.inl ⟨rfl, rfl⟩
    · exact Or.inr ⟨rfl, rfl⟩
  · rintro (⟨rfl, rfl⟩ | ⟨rfl, rfl⟩)
    · exact tie_of_mem h
    · rw [tie_comm]; exact tie_of_mem h
/-- The two knots of a tie. -/
theorem tie_ends {a b : Int} {t : T} (e : tie a b = t) : (a = t.f0 ∧ b = t.f1) ∨ (a = t.f1 ∧ b = t.f0) := by
  unfold tie at e
  split at e <;> subst e
  · exact Or.inl ⟨rfl, rfl⟩
  · exact Or.inr ⟨rfl, rfl⟩
theorem tie_inj {a b c d : Int} (h : tie a b = tie c d) : (a = c ∧ b = d) ∨ (a = d ∧ b = c) := by
  unfold tie at h
  split at h <;> split at h <;> simp only [S73.mk.injEq] at h <;> omega

/-! ### parts of a valid net -/
theorem OK.filter {n : Int} {E : List T} (h : OK n E) (p : T → Bool) : OK n (E.filter p) :=
  ⟨h.n0, h.n8, fun t ht => h.tie t (List.mem_filter.1 ht).1, h.asc.filter p⟩
theorem OK.nil {n : Int} (h0 : 0 ≤ n) (h8 : n ≤ 8) : OK n [] := ⟨h0, h8, by simp, List.Pairwise.nil⟩
theorem OK.nodup {n : Int} {E : List T} (h : OK n E) : E.Nodup := h.asc.imp (fun h e => by subst e; exact lt_irrefl _ h)
/-- Two ascending lists of the same ties are the same. -/
theorem asc_ext : ∀ {E F : List T}, Asc E → Asc F → (∀ t, t ∈ E ↔ t ∈ F) → E = F
  | [], F, _, _, h => by
    cases F with
    | nil => rfl
    | cons t r => exact absurd ((h t).2 (by simp)) (by simp)
  | s :: E, [], _, _, h => absurd ((h s).1 (by simp)) (by simp)
  | s :: E, t :: F, hE, hF, h => by
    have h1 := List.pairwise_cons.1 hE
    have h2 := List.pairwise_cons.1 hF
    have e : s = t := by
      have a := (h s).1 (by simp)
      have b := (h t).2 (by simp)
      rcases List.mem_cons.1 a with e | a
      · exact e
      · rcases List.mem_cons.1 b with e | b
        · exact e.symm
        · exact absurd (h1.1 t b) (lt_asymm (h2.1 s a))
    subst e
    rw [asc_ext h1.2 h2.2 (fun u => ?_)]
    have hu := h u
    simp only [List.mem_cons] at hu
    constructor
    · intro m
      rcases hu.1 (Or.inr m) with rfl | k
      · exact absurd (h1.1 _ m) (lt_irrefl _)
      · exact k
    · intro m
      rcases hu.2 (Or.inr m) with rfl | k
      · exact absurd (h2.1 _ m) (lt_irrefl _)
      · exact k
/-- A net without some ties. -/
noncomputable def less (E : List T) (p : T → Prop) : List T := E.filter (fun t => !dec (p t))
theorem mem_less {E : List T} {p : T → Prop} {t : T} : t ∈ less E p ↔ t ∈ E ∧ ¬ p t := by
  unfold less
  rw [List.mem_filter]
  by_cases h : p t
  · rw [dec_t h]; simp [h]
  · rw [dec_f h]; simp [h]
theorem OK.less {n : Int} {E : List T} (h : OK n E) (p : T → Prop) : OK n (less E p) := h.filter _
theorem less_congr {E : List T} {p q : T → Prop} (h : ∀ t ∈ E, p t ↔ q t) : less E p = less E q := by
  unfold less
  refine List.filter_congr (fun t ht => ?_)
  rw [dec_congr (h t ht)]
theorem less_none {E : List T} {p : T → Prop} (h : ∀ t ∈ E, ¬ p t) : less E p = E := by
  unfold less
  refine List.filter_eq_self.2 (fun t ht => ?_)
  rw [dec_f (h t ht)]; rfl
theorem less_less (E : List T) (p q : T → Prop) : less (less E p) q = less E (fun t => p t ∨ q t) := by
  unfold less
  rw [List.filter_filter]
  refine List.filter_congr (fun t _ => ?_)
  by_cases h : p t
  · rw [dec_t h, dec_t (Or.inl h : p t ∨ q t)]; simp
  · by_cases k : q t
    · rw [dec_t k, dec_t (Or.inr k : p t ∨ q t)]; simp
    · rw [dec_f h, dec_f k, dec_f (not_or.2 ⟨h, k⟩ : ¬ (p t ∨ q t))]; simp
/-- Without the ties of a knot. -/
abbrev AtK (k : Int) (t : T) : Prop := t.f0 = k ∨ t.f1 = k
/-- The ties that a knot does not have. -/
noncomputable abbrev lessK (E : List T) (k : Int) : List T := less E (AtK k)
theorem less_cons_pos {t : T} {E : List T} {p : T → Prop} (h : p t) : less (t :: E) p = less E p := by
  unfold less
  rw [List.filter_cons_of_neg (p := fun t => !dec (p t)) (by rw [dec_t h]; simp)]
theorem less_cons_neg {t : T} {E : List T} {p : T → Prop} (h : ¬ p t) : less (t :: E) p = t :: less E p := by
  unfold less
  rw [List.filter_cons_of_pos (p := fun t => !dec (p t)) (by rw [dec_f h]; rfl)]
theorem less_length_le (E : List T) (p : T → Prop) : (less E p).length ≤ E.length := List.length_filter_le _ _
/-- Without a tie a net hangs together but between its ends. -/
theorem Conn.without {E : List T} {t : T} (ht : t.f0 < t.f1) {a b : Int} (k : Conn E a b) (hc : Conn (Th.less E (· = t)) t.f0 t.f1) : Conn (Th.less E (· = t)) a b := by
  refine k.sub (fun c d m => ?_)
  by_cases e : tie c d = t
  · rcases (tie_eq_iff ht).1 e with ⟨rfl, rfl⟩ | ⟨rfl, rfl⟩
    · exact hc
    · exact hc.symm
  · exact .one (mem_less.2 ⟨m, e⟩)

/-! ### the least of a part -/
noncomputable def rep (E : List T) (i : Int) : Int := ((ks (i + 1)).find? (fun j => dec (Conn E j i))).getD 0
theorem rep_spec (E : List T) {i : Int} (h : 0 ≤ i) : Conn E (rep E i) i ∧ 0 ≤ rep E i ∧ rep E i ≤ i ∧ ∀ j, 0 ≤ j → Conn E j i → rep E i ≤ j := by
  unfold rep
  cases e : (ks (i + 1)).find? (fun j => dec (Conn E j i)) with
  | none =>
    rw [List.find?_eq_none] at e
    exact absurd (dec_t (Conn.refl i)) (by have := e i (mem_ks.2 (by omega)); simpa using this)
  | some x =>
    obtain ⟨h1, l1, l2, h2, h3⟩ := List.find?_eq_some_iff_append.1 e
    have hx : x ∈ ks (i + 1) := by rw [h2]; simp
    have hx' := mem_ks.1 hx
    refine ⟨dec_iff.1 h1, hx'.1, by simp only [Option.getD_some]; omega, fun j hj hc => ?_⟩
    simp only [Option.getD_some]
    by_cases hji : j ≤ i
    · have hj' : j ∈ ks (i + 1) := mem_ks.2 (by omega)
      have hp := ks_pairwise (i + 1)
      rw [h2] at hj' hp
      rcases List.mem_append.1 hj' with m | m
      · have := h3 j m
        rw [dec_t hc] at this
        exact absurd this (by simp)
      · rcases List.mem_cons.1 m with rfl | m
        · exact Int.le_refl _
        · have := (List.pairwise_cons.1 (List.pairwise_append.1 hp).2.1).1 j m
          omega
    · omega
theorem rep_conn (E : List T) {i : Int} (h : 0 ≤ i) : Conn E (rep E i) i := (rep_spec E h).1
theorem rep_nonneg (E : List T) {i : Int} (h : 0 ≤ i) : 0 ≤ rep E i := (rep_spec E h).2.1
theorem rep_le (E : List T) {i : Int} (h : 0 ≤ i) : rep E i ≤ i := (rep_spec E h).2.2.1
theorem rep_least (E : List T) {i : Int} (h : 0 ≤ i) {j : Int} (hj : 0 ≤ j) (hc : Conn E j i) : rep E i ≤ j := (rep_spec E h).2.2.2 j hj hc
theorem rep_iff (E : List T) {a b : Int} (ha : 0 ≤ a) (hb : 0 ≤ b) : rep E a = rep E b ↔ Conn E a b := by
  constructor
  · intro e
    have := rep_conn E ha
    rw [e] at this
    exact this.symm.trans (rep_conn E hb)
  · intro hc
    have h1 := rep_least E ha (rep_nonneg E hb) ((rep_conn E hb).trans hc.symm)
    have h2 := rep_least E hb (rep_nonneg E ha) ((rep_conn E ha).trans hc)
    omega
theorem rep_unique (E : List T) {i x : Int} (h : 0 ≤ i) (hx : 0 ≤ x) (hc : Conn E x i) (hl : ∀ j, 0 ≤ j → Conn E j i → x ≤ j) : rep E i = x := by
  have h1 := rep_least E h hx hc
  have h2 := hl _ (rep_nonneg E h) (rep_conn E h)
  omega
/-- The labels of all knots; where one leads; how many parts there are. -/
noncomputable def partsL (n : Int) (E : List T) : List Int := (ks n).map (rep E)
noncomputable def reachL (n : Int) (E : List T) (a : Int) : List Bool := (ks n).map (fun b => dec (Conn E a b))
noncomputable def isRep (E : List T) (k : Int) : Bool := dec (rep E k = k)
noncomputable def countN (n : Int) (E : List T) : Int := (((ks n).filter (isRep E)).length : Int)
theorem countN_bound (n : Int) (E : List T) (h : 0 ≤ n) : 0 ≤ countN n E ∧ countN n E ≤ n := by
  unfold countN
  have := List.length_filter_le (isRep E) (ks n)
  rw [ks_length] at this
  omega
theorem rep_congr {E F : List T} (h : ∀ a b, Conn E a b ↔ Conn F a b) (i : Int) : rep E i = rep F i := by
  unfold rep
  congr 2
  funext j
  exact dec_congr (h j i)
theorem countN_congr {E F : List T} (h : ∀ a b, Conn E a b ↔ Conn F a b) (n : Int) : countN n E = countN n F := by
  unfold countN
  congr 2
  refine List.filter_congr (fun k _ => ?_)
  unfold isRep
  rw [rep_congr h]
end Go.Proofs.Ytdlnnjgjfngccaa.Th
