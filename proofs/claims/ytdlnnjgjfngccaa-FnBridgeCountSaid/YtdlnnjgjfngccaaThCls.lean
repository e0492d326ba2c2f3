/-
How many classes a relation has on a list; what a tie more, or less, makes of it; a knot less.
-/
import Derived.Test.YtdlnnjgjfngccaaThG
namespace Go.Proofs.Ytdlnnjgjfngccaa.Th
open Go.RowKit Go.Proofs.YtdlnnjgjfngccaaW.PrintWords Go.Proofs.YtdlnnjgjfngccaaW.PrintLast Go.Proofs.YtdlnnjgjfngccaaW.PrintMore Go.Proofs.Ytdlnnjgjfngccaa.F

/-- Of a proposition 1 or 0. -/
noncomputable def one (p : Prop) : Int := @ite _ p (Classical.propDecidable p) 1 0
theorem one_t {p : Prop} (h : p) : one p = 1 := by unfold one; rw [if_pos h]
theorem one_f {p : Prop} (h : ¬ p) : one p = 0 := by unfold one; rw [if_neg h]
theorem one_congr {p q : Prop} (h : p ↔ q) : one p = one q := by
  by_cases k : p
  · rw [one_t k, one_t (h.1 k)]
  · rw [one_f k, one_f (fun x => k (h.2 x))]
theorem one_bound (p : Prop) : 0 ≤ one p ∧ one p ≤ 1 := by
  by_cases k : p
  · rw [one_t k]; omega
  · rw [one_f k]; omega
/-- The classes: each is told by its last one. -/
noncomputable def cls (R : Int → Int → Prop) : List Int → Int
  | [] => 0
  | x :: l => cls R l + one (∀ y ∈ l, ¬ R x y)
/-- Symmetric, and transitive. -/
structure Eqv (R : Int → Int → Prop) : Prop where
  symm : ∀ {a b}, R a b → R b a
  trans : ∀ {a b c}, R a b → R b c → R a c
theorem Conn.eqv (E : List T) : Eqv (Conn E) := ⟨Conn.symm, Conn.trans⟩
theorem cls_perm {R : Int → Int → Prop} (h : Eqv R) {l m : List Int} (p : l.Perm m) : cls R l = cls R m := by
  induction p with
  | nil => rfl
  | @cons x l1 l2 p ih =>
    simp only [cls, ih]
    rw [one_congr (p := ∀ y ∈ l1, ¬ R x y) (q := ∀ y ∈ l2, ¬ R x y)]
    exact ⟨fun k y hy => k y (p.mem_iff.2 hy), fun k y hy => k y (p.mem_iff.1 hy)⟩
  | swap x y l =>
    simp only [cls, List.forall_mem_cons]
    by_cases e : R x y
    · have e' := h.symm e
      rw [one_f (p := ¬ R y x ∧ _) (fun k => k.1 e'), one_f (p := ¬ R x y ∧ _) (fun k => k.1 e)]
      rw [one_congr (p := ∀ z ∈ l, ¬ R x z) (q := ∀ z ∈ l, ¬ R y z)]
      exact ⟨fun k z hz m => k z hz (h.trans e m), fun k z hz m => k z hz (h.trans e' m)⟩
    · have e' : ¬ R y x := fun k => e (h.symm k)
      simp only [e, e', not_false_eq_true, true_and]
      omega
  | trans _ _ ih1 ih2 => rw [ih1, ih2]
/-- A finer relation has more classes, and as many only if it is the same. -/
theorem cls_finer {R S : Int → Int → Prop} (hR : Eqv R) (hS : Eqv S) (hRS : ∀ x y, R x y → S x y) : ∀ l : List Int, cls S l ≤ cls R l ∧ (cls S l = cls R l → l.Nodup → ∀ x ∈ l, ∀ y ∈ l, S x y → x ≠ y → R x y)
  | [] => ⟨Int.le_refl _, fun _ _ x hx => by simp at hx⟩
  | x :: l => by
    obtain ⟨ih1, ih2⟩ := cls_finer hR hS hRS l
    have hone : one (∀ y ∈ l, ¬ S x y) ≤ one (∀ y ∈ l, ¬ R x y) := by
      by_cases k : ∀ y ∈ l, ¬ S x y
      · rw [one_t k, one_t (fun y hy m => k y hy (hRS x y m))]; omega
      · rw [one_f k]; exact (one_bound _).1
    simp only [cls]
    refine ⟨by omega, fun e hn => ?_⟩
    have hn' := List.nodup_cons.1 hn
    have ih := ih2 (by omega) hn'.2
    have key : ∀ y ∈ l, S x y → R x y := fun y hy m => by
      have hns : ¬ ∀ y ∈ l, ¬ S x y := fun k => k y hy m
      rw [one_f hns] at e hone
      have hnr : ¬ ∀ z ∈ l, ¬ R x z := fun k => by rw [one_t k] at e; omega
      obtain ⟨z, hz⟩ := Classical.not_forall.1 hnr
      obtain ⟨hz, hxz⟩ := Classical.not_imp.1 hz
      have hxz := Classical.not_not.1 hxz
      by_cases ezy : z = y
      · subst ezy; exact hxz
      · exact hR.trans hxz (ih z hz y hy (hS.trans (hS.symm (hRS _ _ hxz)) m) ezy)
    intro a ha b hb m hab
    rcases List.mem_cons.1 ha with e1 | ha'
    · rcases List.mem_cons.1 hb with e2 | hb'
      · exact absurd (e1.trans e2.symm) hab
      · rw [e1] at m ⊢; exact key b hb' m
    · rcases List.mem_cons.1 hb with e2 | hb'
      · rw [e2] at m ⊢; exact hR.symm (key a ha' (hS.symm m))
      · exact ih a ha' b hb' m hab
/-- The same on a list. -/
theorem cls_congr {R S : Int → Int → Prop} : ∀ {l : List Int}, (∀ x ∈ l, ∀ y ∈ l, R x y ↔ S x y) → cls R l = cls S l
  | [], _ => rfl
  | x :: l, h => by
    simp only [cls]
    rw [cls_congr (l := l) (fun a ha b hb => h a (List.mem_cons_of_mem _ ha) b (List.mem_cons_of_mem _ hb))]
    rw [one_congr (q := ∀ y ∈ l, ¬ S x y)]
    exact ⟨fun k y hy m => k y hy ((h x List.mem_cons_self y (List.mem_cons_of_mem _ hy)).2 m), fun k y hy m => k y hy ((h x List.mem_cons_self y (List.mem_cons_of_mem _ hy)).1 m)⟩
/-- Two classes made one. -/
def Join (R : Int → Int → Prop) (a b x y : Int) : Prop := R x y ∨ (R x a ∧ R b y) ∨ (R x b ∧ R a y)
theorem cls_join {R : Int → Int → Prop} (h : Eqv R) {a b : Int} (hab : ¬ R a b) (haa : R a a) (hbb : R b b) : ∀ l : List Int, cls (Join R a b) l = cls R l - one ((∃ x ∈ l, R x a) ∧ (∃ x ∈ l, R x b))
  | [] => by simp only [cls]; rw [one_f (by rintro ⟨⟨x, hx, _⟩, _⟩; simp at hx)]; rfl
  | x :: l => by
    have ih := cls_join h hab haa hbb l
    simp only [cls, ih]
    by_cases hA : R x a
    · have hB : ¬ R x b := fun k => hab (h.trans (h.symm hA) k)
      by_cases lA : ∃ y ∈ l, R y a
      · have r0 : ¬ ∀ y ∈ l, ¬ R x y := fun k => by obtain ⟨y, hy, m⟩ := lA; exact k y hy (h.trans hA (h.symm m))
        have s0 : ¬ ∀ y ∈ l, ¬ Join R a b x y := fun k => r0 (fun y hy m => k y hy (Or.inl m))
        rw [one_f r0, one_f s0]
        have : one ((∃ y ∈ x :: l, R y a) ∧ ∃ y ∈ x :: l, R y b) = one ((∃ y ∈ l, R y a) ∧ ∃ y ∈ l, R y b) := one_congr (by
          constructor
          · rintro ⟨_, y, hy, m⟩
            refine ⟨lA, ?_⟩
            rcases List.mem_cons.1 hy with rfl | hy
            · exact absurd m hB
            · exact ⟨y, hy, m⟩
          · rintro ⟨⟨y, hy, m⟩, z, hz, m'⟩
            exact ⟨⟨y, List.mem_cons_of_mem _ hy, m⟩, z, List.mem_cons_of_mem _ hz, m'⟩)
        omega
      · have r1 : ∀ y ∈ l, ¬ R x y := fun y hy m => lA ⟨y, hy, h.trans (h.symm m) hA⟩
        rw [one_t r1, one_f (p := (∃ y ∈ l, R y a) ∧ ∃ y ∈ l, R y b) (fun k => lA k.1)]
        by_cases lB : ∃ y ∈ l, R y b
        · have s0 : ¬ ∀ y ∈ l, ¬ Join R a b x y := fun k => by
            obtain ⟨y, hy, m⟩ := lB
            exact k y hy (Or.inr (Or.inl ⟨hA, h.symm m⟩))
          have t1 : (∃ y ∈ x :: l, R y a) ∧ ∃ y ∈ x :: l, R y b := by
            obtain ⟨y, hy, m⟩ := lB
            exact ⟨⟨x, List.mem_cons_self, hA⟩, y, List.mem_cons_of_mem _ hy, m⟩
          rw [one_f s0, one_t t1]; omega
        · have s1 : ∀ y ∈ l, ¬ Join R a b x y := fun y hy m => by
            rcases m with m | ⟨_, m⟩ | ⟨m, _⟩
            · exact r1 y hy m
            · exact lB ⟨y, hy, h.symm m⟩
            · exact hB m
          have t0 : ¬ ((∃ y ∈ x :: l, R y a) ∧ ∃ y ∈ x :: l, R y b) := by
            rintro ⟨_, y, hy, m⟩
            rcases List.mem_cons.1 hy with rfl | hy
            · exact hB m
            · exact lB ⟨y, hy, m⟩
          rw [one_t s1, one_f t0]; omega
    · by_cases hB : R x b
      · by_cases lB : ∃ y ∈ l, R y b
        · have r0 : ¬ ∀ y ∈ l, ¬ R x y := fun k => by obtain ⟨y, hy, m⟩ := lB; exact k y hy (h.trans hB (h.symm m))
          have s0 : ¬ ∀ y ∈ l, ¬ Join R a b x y := fun k => r0 (fun y hy m => k y hy (Or.inl m))
          rw [one_f r0, one_f s0]
          have : one ((∃ y ∈ x :: l, R y a) ∧ ∃ y ∈ x :: l, R y b) = one ((∃ y ∈ l, R y a) ∧ ∃ y ∈ l, R y b) := one_congr (by
            constructor
            · rintro ⟨⟨y, hy, m⟩, _⟩
              refine ⟨?_, lB⟩
              rcases List.mem_cons.1 hy with rfl | hy
              · exact absurd m hA
              · exact ⟨y, hy, m⟩
            · rintro ⟨⟨y, hy, m⟩, z, hz, m'⟩
              exact ⟨⟨y, List.mem_cons_of_mem _ hy, m⟩, z, List.mem_cons_of_mem _ hz, m'⟩)
          omega
        · have r1 : ∀ y ∈ l, ¬ R x y := fun y hy m => lB ⟨y, hy, h.trans (h.symm m) hB⟩
          rw [one_t r1, one_f (p := (∃ y ∈ l, R y a) ∧ ∃ y ∈ l, R y b) (fun k => lB k.2)]
          by_cases lA : ∃ y ∈ l, R y a
          · have s0 : ¬ ∀ y ∈ l, ¬ Join R a b x y := fun k => by
              obtain ⟨y, hy, m⟩ := lA
              exact k y hy (Or.inr (Or.inr ⟨hB, h.symm m⟩))
            have t1 : (∃ y ∈ x :: l, R y a) ∧ ∃ y ∈ x :: l, R y b := by
              obtain ⟨y, hy, m⟩ := lA
              exact ⟨⟨y, List.mem_cons_of_mem _ hy, m⟩, x, List.mem_cons_self, hB⟩
            rw [one_f s0, one_t t1]; omega
          · have s1 : ∀ y ∈ l, ¬ Join R a b x y := fun y hy m => by
              rcases m with m | ⟨m, _⟩ | ⟨_, m⟩
              · exact r1 y hy m
              · exact hA m
              · exact lA ⟨y, hy, h.symm m⟩
            have t0 : ¬ ((∃ y ∈ x :: l, R y a) ∧ ∃ y ∈ x :: l, R y b) := by
              rintro ⟨⟨y, hy, m⟩, _⟩
              rcases List.mem_cons.1 hy with rfl | hy
              · exact hA m
              · exact lA ⟨y, hy, m⟩
            rw [one_t s1, one_f t0]; omega
      · have hs : (∀ y ∈ l, ¬ Join R a b x y) ↔ ∀ y ∈ l, ¬ R x y := by
          constructor
          · exact fun k y hy m => k y hy (Or.inl m)
          · intro k y hy m
            rcases m with m | ⟨m, _⟩ | ⟨m, _⟩
            · exact k y hy m
            · exact hA m
            · exact hB m
        have : one ((∃ y ∈ x :: l, R y a) ∧ ∃ y ∈ x :: l, R y b) = one ((∃ y ∈ l, R y a) ∧ ∃ y ∈ l, R y b) := one_congr (by
          constructor
          · rintro ⟨⟨y, hy, m⟩, z, hz, m'⟩
            refine ⟨?_, ?_⟩
            · rcases List.mem_cons.1 hy with rfl | hy
              · exact absurd m hA
              · exact ⟨y, hy, m⟩
            · rcases List.mem_cons.1 hz with rfl | hz
              · exact absurd m' hB
              · exact ⟨z, hz, m'⟩
          · rintro ⟨⟨y, hy, m⟩, z, hz, m'⟩
            exact ⟨⟨y, List.mem_cons_of_mem _ hy, m⟩, z, List.mem_cons_of_mem _ hz, m'⟩)
        rw [one_congr hs]; omega

/-! ### parts are classes -/
theorem ks_reverse_cls (E : List T) : ∀ m : Nat, cls (Conn E) (ks m).reverse = (((ks m).filter (isRep E)).length : Int)
  | 0 => by simp [ks, cls]
  | m + 1 => by
    have e : ks ((m + 1 : Nat) : Int) = ks m ++ [(m : Int)] := by
      rw [show ((m + 1 : Nat) : Int) = (m : Int) + 1 by omega]
      exact ks_succ (by omega)
    rw [e, List.reverse_append, List.filter_append, List.length_append]
    simp only [List.reverse_singleton, List.singleton_append, cls, ks_reverse_cls E m]
    have h : (∀ y ∈ (ks m).reverse, ¬ Conn E m y) ↔ rep E m = m := by
      constructor
      · intro k
        have h0 := rep_nonneg E (show (0 : Int) ≤ m by omega)
        have h1 := rep_le E (show (0 : Int) ≤ m by omega)
        by_cases e : rep E m = m
        · exact e
        · exact absurd (rep_conn E (by omega)).symm (k _ (List.mem_reverse.2 (mem_ks.2 (by omega))))
      · intro k y hy m'
        have := mem_ks.1 (List.mem_reverse.1 hy)
        have := rep_least E (show (0 : Int) ≤ m by omega) this.1 m'.symm
        omega
    by_cases k : rep E m = m
    · rw [one_t (h.2 k), List.filter_cons_of_pos (p := isRep E) (dec_t k)]; simp
    · rw [one_f (fun x => k (h.1 x)), List.filter_cons_of_neg (p := isRep E) (by unfold isRep; rw [dec_f k]; simp)]; simp
theorem countN_cls {n : Int} (h : 0 ≤ n) (E : List T) : countN n E = cls (Conn E) (ks n) := by
  have := ks_reverse_cls E n.toNat
  rw [show ((n.toNat : Nat) : Int) = n by omega] at this
  unfold countN
  rw [← this]
  exact cls_perm (Conn.eqv E) (List.reverse_perm _)
/-- What a tie joins. -/
theorem Conn.add {E F : List T} {t : T} (ht : t.f0 < t.f1) (h : ∀ s, s ∈ F ↔ s = t ∨ s ∈ E) {x y : Int} : Conn F x y ↔ Join (Conn E) t.f0 t.f1 x y := by
  constructor
  · intro k
    induction k with
    | refl => exact Or.inl (.refl _)
    | step _ m ih =>
      rcases (h _).1 m with e | m
      · rcases (tie_eq_iff ht).1 e with ⟨rfl, rfl⟩ | ⟨rfl, rfl⟩
        · rcases ih with k | ⟨k, k'⟩ | ⟨k, k'⟩
          · exact Or.inr (Or.inl ⟨k, .refl _⟩)
          · exact Or.inr (Or.inl ⟨k, .refl _⟩)
          · exact Or.inl k
        · rcases ih with k | ⟨k, k'⟩ | ⟨k, k'⟩
          · exact Or.inr (Or.inr ⟨k, .refl _⟩)
          · exact Or.inl k
          · exact Or.inr (Or.inr ⟨k, .refl _⟩)
      · rcases ih with k | ⟨k, k'⟩ | ⟨k, k'⟩
        · exact Or.inl (.step k m)
        · exact Or.inr (Or.inl ⟨k, .step k' m⟩)
        · exact Or.inr (Or.inr ⟨k, .step k' m⟩)
  · have mono : ∀ {a b}, Conn E a b → Conn F a b := fun k => k.mono (fun s hs => (h s).2 (Or.inr hs))
    have one' : Conn F t.f0 t.f1 := .one (by unfold Has; rw [tie_of_mem ht]; exact (h t).2 (Or.inl rfl))
    rintro (k | ⟨k, k'⟩ | ⟨k, k'⟩)
    · exact mono k
    · exact (mono k).trans (one'.trans (mono k'))
    · exact (mono k).trans (one'.symm.trans (mono k'))
/-- A tie more: one part less, if its ends were not joined. -/
theorem countN_add {n : Int} {E F : List T} {t : T} (hn : 0 ≤ n) (h0 : In n t.f0) (h1 : In n t.f1) (ht : t.f0 < t.f1) (h : ∀ s, s ∈ F ↔ s = t ∨ s ∈ E) : countN n F = countN n E - one (¬ Conn E t.f0 t.f1) := by
  rw [countN_cls hn, countN_cls hn, cls_congr (S := Join (Conn E) t.f0 t.f1) (fun x _ y _ => Conn.add ht h)]
  by_cases hc : Conn E t.f0 t.f1
  · rw [one_f (fun k => k hc)]
    rw [cls_congr (R := Join (Conn E) t.f0 t.f1) (S := Conn E) (fun x _ y _ => ?_)]
    · omega
    · constructor
      · rintro (k | ⟨k, k'⟩ | ⟨k, k'⟩)
        · exact k
        · exact k.trans (hc.trans k')
        · exact k.trans (hc.symm.trans k')
      · exact Or.inl
  · rw [one_t hc, cls_join (Conn.eqv E) hc (.refl _) (.refl _)]
    rw [one_t ⟨⟨t.f0, mem_ks.2 h0, .refl _⟩, t.f1, mem_ks.2 h1, .refl _⟩]
theorem mem_less_one {E : List T} {t : T} (ht : t ∈ E) (s : T) : s ∈ E ↔ s = t ∨ s ∈ less E (· = t) := by
  constructor
  · intro h
    by_cases e : s = t
    · exact Or.inl e
    · exact Or.inr (mem_less.2 ⟨h, e⟩)
  · rintro (rfl | h)
    · exact ht
    · exact (mem_less.1 h).1
theorem countN_less {n : Int} {E : List T} {t : T} (h : OK n E) (ht : t ∈ E) : countN n (less E (· = t)) = countN n E + one (¬ Conn (less E (· = t)) t.f0 t.f1) := by
  have hb := h.tie t ht
  have := countN_add h.n0 ⟨hb.1, by omega⟩ ⟨by omega, hb.2.2⟩ hb.2.1 (mem_less_one ht)
  omega

/-! ### a knot less -/
theorem Conn.lessK_ne {E : List T} {v a b : Int} (h : Conn (lessK E v) a b) : a = b ∨ (a ≠ v ∧ b ≠ v) := by
  induction h with
  | refl => exact Or.inl rfl
  | @step b c _ m ih =>
    have hm := (mem_less.1 m).2
    have hb : b ≠ v ∧ c ≠ v := by
      unfold tie at hm
      split at hm <;> simp only [not_or] at hm
      · exact hm
      · exact ⟨hm.2, hm.1⟩
    rcases ih with rfl | ih
    · exact Or.inr hb
    · exact Or.inr ⟨ih.1, hb.2⟩
theorem ks_perm {n v : Int} (hv : In n v) : (ks n).Perm (v :: (ks n).filter (fun x => decide (x ≠ v))) := by
  have h1 : ks n = ks v ++ v :: ksFrom n (v + 1) := ks_split hv.1 hv.2
  have hnd := ks_nodup n
  rw [h1] at hnd
  have hnd' := List.nodup_append.1 hnd
  have e1 : (ks v).filter (fun x => decide (x ≠ v)) = ks v := List.filter_eq_self.2 (fun x hx => by have := mem_ks.1 hx; simp; omega)
  have e2 : (ksFrom n (v + 1)).filter (fun x => decide (x ≠ v)) = ksFrom n (v + 1) := List.filter_eq_self.2 (fun x hx => by
    have := (List.nodup_cons.1 hnd'.2.1).1
    simp only [ne_eq, decide_not, Bool.not_eq_eq_eq_not, Bool.not_true, decide_eq_false_iff_not]
    intro e
    rw [e] at hx
    exact this hx)
  have : (ks n).filter (fun x => decide (x ≠ v)) = ks v ++ ksFrom n (v + 1) := by
    rw [h1, List.filter_append, List.filter_cons_of_neg (by simp), e1, e2]
  rw [this]
  refine h1 ▸ List.perm_middle
/-- Without a knot that is tied there are as many parts and its own, just if it parts no others. -/
theorem countN_lessK {n : Int} {E : List T} {v : Int} (h : OK n E) (hv : In n v) (ht : ∃ c, Has E v c) :
    countN n E ≤ countN n (lessK E v) - 1 ∧ (countN n E = countN n (lessK E v) - 1 ↔ ∀ a b, In n a → In n b → a ≠ v → b ≠ v → Conn E a b → Conn (lessK E v) a b) := by
  rw [countN_cls h.n0, countN_cls h.n0, cls_perm (Conn.eqv E) (ks_perm hv), cls_perm (Conn.eqv _) (ks_perm hv)]
  simp only [cls]
  have hmem : ∀ x, x ∈ (ks n).filter (fun x => decide (x ≠ v)) ↔ In n x ∧ x ≠ v := fun x => by
    rw [List.mem_filter, mem_ks, decide_eq_true_iff]; exact Iff.rfl
  have e1 : ¬ ∀ y ∈ (ks n).filter (fun x => decide (x ≠ v)), ¬ Conn E v y := fun k => by
    obtain ⟨c, hc⟩ := ht
    have := h.has hc
    exact k c ((hmem c).2 ⟨this.2.1, fun e => this.2.2 e.symm⟩) (.one hc)
  have e2 : ∀ y ∈ (ks n).filter (fun x => decide (x ≠ v)), ¬ Conn (lessK E v) v y := fun y hy k => by
    rcases k.lessK_ne with e | e
    · exact ((hmem y).1 hy).2 e.symm
    · exact e.1 rfl
  rw [one_f e1, one_t e2]
  have fin := cls_finer (Conn.eqv (lessK E v)) (Conn.eqv E) (fun x y k => k.mono (fun t ht => (mem_less.1 ht).1)) ((ks n).filter (fun x => decide (x ≠ v)))
  refine ⟨by omega, ?_, ?_⟩
  · intro e a b ha hb hav hbv hc
    by_cases eab : a = b
    · subst eab; exact .refl _
    · exact fin.2 (by omega) ((ks_nodup n).filter _) a ((hmem a).2 ⟨ha, hav⟩) b ((hmem b).2 ⟨hb, hbv⟩) hc eab
  · intro k
    rw [cls_congr (R := Conn E) (S := Conn (lessK E v)) (fun x hx y hy => ?_)]
    · omega
    · have hx := (hmem x).1 hx
      have hy := (hmem y).1 hy
      exact ⟨k x y hx.1 hy.1 hx.2 hy.2, fun m => m.mono (fun t ht => (mem_less.1 ht).1)⟩
end Go.Proofs.Ytdlnnjgjfngccaa.Th
