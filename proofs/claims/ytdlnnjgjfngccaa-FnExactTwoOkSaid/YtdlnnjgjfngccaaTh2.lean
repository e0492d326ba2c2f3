/-
Ways: rows of different knots, each tied to the next one; that WayOk, of the program and of the reference, tells them; and TwoOk.
-/
import Derived.Test.YtdlnnjgjfngccaaTh1
import Derived.Test.YtdlnnjgjfngccaaF23
import Derived.Test.YtdlnnjgjfngccaaF26
namespace Go.Proofs.Ytdlnnjgjfngccaa.Th
open Go.RowKit Go.Proofs.YtdlnnjgjfngccaaW.PrintWords Go.Proofs.YtdlnnjgjfngccaaW.PrintMore Go.Proofs.Ytdlnnjgjfngccaa.F

/-! ### loops that ask of each index -/
theorem all_loop {L : Nat → Nat → Option Bool} (len : Nat) (p : Nat → Prop) (hend : Ev (fun k => L k len) true) (hyes : ∀ i, i < len → p i → ∀ b, Ev (fun k => L k (i + 1)) b → Ev (fun k => L k i) b)
    (hno : ∀ i, i < len → ¬ p i → Ev (fun k => L k i) false) : ∀ d i, i + d = len → Ev (fun k => L k i) (dec (∀ j, i ≤ j → j < len → p j))
  | 0, i, h => by
    obtain rfl : i = len := by omega
    exact Ev.tt (fun j h1 h2 => by omega) hend
  | d + 1, i, h => by
    by_cases hp : p i
    · refine Ev.cast (hyes i (by omega) hp _ (all_loop len p hend hyes hno d (i + 1) (by omega))) (dec_congr ?_)
      constructor
      · intro a j h1 h2
        by_cases e : j = i
        · subst e; exact hp
        · exact a j (by omega) h2
      · intro a j h1 h2; exact a j (by omega) h2
    · exact Ev.ff (fun a => hp (a i (Nat.le_refl _) (by omega))) (hno i (by omega) hp)
theorem any_loop {L : Nat → Nat → Option Bool} (len : Nat) (p : Nat → Prop) (hend : Ev (fun k => L k len) false) (hno : ∀ i, i < len → ¬ p i → ∀ b, Ev (fun k => L k (i + 1)) b → Ev (fun k => L k i) b)
    (hyes : ∀ i, i < len → p i → Ev (fun k => L k i) true) : ∀ d i, i + d = len → Ev (fun k => L k i) (dec (∃ j, i ≤ j ∧ j < len ∧ p j))
  | 0, i, h => by
    obtain rfl : i = len := by omega
    exact Ev.ff (fun ⟨j, h1, h2, _⟩ => by omega) hend
  | d + 1, i, h => by
    by_cases hp : p i
    · exact Ev.tt ⟨i, Nat.le_refl _, by omega, hp⟩ (hyes i (by omega) hp)
    · refine Ev.cast (hno i (by omega) hp _ (any_loop len p hend hno hyes d (i + 1) (by omega))) (dec_congr ?_)
      constructor
      · rintro ⟨j, h1, h2, h3⟩; exact ⟨j, by omega, h2, h3⟩
      · rintro ⟨j, h1, h2, h3⟩
        by_cases e : j = i
        · subst e; exact absurd h3 hp
        · exact ⟨j, by omega, h2, h3⟩

/-! ### numbers among numbers -/
theorem rd_getElem (l : List Int) (i : Nat) (h : i < l.length) : rd l (i : Int) = l[i] := by
  rw [rd_nat, List.getD_eq_getElem?_getD, List.getElem?_eq_getElem h, Option.getD_some]
theorem mem_iff_rd (l : List Int) (x : Int) : x ∈ l ↔ ∃ j, 0 ≤ j ∧ j < l.length ∧ rd l (j : Int) = x := by
  rw [List.mem_iff_getElem]
  constructor
  · rintro ⟨j, h, e⟩; exact ⟨j, Nat.zero_le _, h, by rw [rd_getElem l j h]; exact e⟩
  · rintro ⟨j, _, h, e⟩; exact ⟨j, h, by rw [← rd_getElem l j h]; exact e⟩
theorem ev_l2Has (l : List Int) (x : Int) (hl : l.length ≤ 1048576) : Ev (fun k => spec_l2Has.f k l x) (dec (x ∈ l)) := by
  simp only [spec_l2Has.f]
  have := any_loop (L := fun k i => spec_l2Has.l0 k l x i) l.length (fun j => rd l (j : Int) = x) ?_ ?_ ?_ l.length 0 (by omega)
  · exact Ev.cast this (dec_congr (mem_iff_rd l x).symm)
  · refine Ev.succ ?_
    simp only [spec_l2Has.l0]
    exact Ev.neg (by omega) (Ev.now _)
  · intro i hi hp b hb
    refine Ev.succ ?_
    simp only [spec_l2Has.l0]
    refine Ev.pos (by omega) (Ev.pos (by omega) (Ev.neg hp ?_))
    rw [w64 (by omega)]
    exact hb
  · intro i hi hp
    refine Ev.succ ?_
    simp only [spec_l2Has.l0]
    exact Ev.pos (by omega) (Ev.pos (by omega) (Ev.pos hp (Ev.now _)))
theorem ev_indexInt_loop (l : List Int) (x : Int) (hl : l.length ≤ 1048576) : ∀ (d i : Nat), i + d = l.length → ∃ c : Int, Ev (fun k => slices_Index_int_int.l0 k l x l.length i) c ∧ (c ≥ 0 ↔ x ∈ l.drop i)
  | 0, i, h => by
    refine ⟨-1, Ev.succ ?_, ?_⟩
    · simp only [slices_Index_int_int.l0]
      exact Ev.neg (by omega) (Ev.now _)
    · rw [List.drop_of_length_le (by omega)]; simp
  | d + 1, i, h => by
    have hi : i < l.length := by omega
    by_cases e : x = l[i]
    · refine ⟨i, Ev.succ ?_, ?_⟩
      · simp only [slices_Index_int_int.l0, rd_getElem l i hi]
        exact Ev.pos (by omega) (Ev.pos (by omega) (Ev.pos (by omega) (Ev.pos e (Ev.now _))))
      · rw [List.drop_eq_getElem_cons hi]
        exact ⟨fun _ => by rw [e]; exact List.mem_cons_self, fun _ => by omega⟩
    · obtain ⟨c, hc, hm⟩ := ev_indexInt_loop l x hl d (i + 1) (by omega)
      refine ⟨c, Ev.succ ?_, ?_⟩
      · simp only [slices_Index_int_int.l0, rd_getElem l i hi]
        refine Ev.pos (by omega) (Ev.pos (by omega) (Ev.pos (by omega) (Ev.neg e ?_)))
        rw [w64 (by omega)]
        exact hc
      · rw [List.drop_eq_getElem_cons hi, List.mem_cons, hm]
        exact ⟨Or.inr, fun k => k.resolve_left e⟩
theorem ev_containsInt (l : List Int) (x : Int) (hl : l.length ≤ 1048576) : Ev (fun k => slices_Contains_int_int.f k l x) (dec (x ∈ l)) := by
  obtain ⟨c, hc, hm⟩ := ev_indexInt_loop l x hl l.length 0 (by omega)
  simp only [slices_Contains_int_int.f, slices_Index_int_int.f]
  refine Ev.bind hc (Ev.some_ (dec_of ?_))
  rw [decide_eq_true_iff, hm, List.drop_zero]

/-! ### ways -/
def Walk (R : Int → Int → Prop) : List Int → Prop
  | [] => True
  | [_] => True
  | a :: b :: l => R a b ∧ Walk R (b :: l)
theorem walk_iff (R : Int → Int → Prop) : ∀ w : List Int, Walk R w ↔ ∀ j : Nat, j + 1 < w.length → R (rd w (j : Int)) (rd w ((j + 1 : Nat) : Int))
  | [] => by simp [Walk]
  | [_] => by simp [Walk]
  | a :: b :: l => by
    rw [Walk, walk_iff R (b :: l)]
    constructor
    · rintro ⟨h, k⟩ j hj
      cases j with
      | zero => simpa [rd] using h
      | succ j =>
        have := k j (by simp at hj ⊢; omega)
        rw [rd_nat, rd_nat] at this ⊢
        simpa using this
    · intro h
      refine ⟨by simpa [rd] using h 0 (by simp), fun j hj => ?_⟩
      have := h (j + 1) (by simp at hj ⊢; omega)
      rw [rd_nat, rd_nat] at this ⊢
      simpa using this
theorem nodup_iff (w : List Int) : w.Nodup ↔ ∀ j : Nat, j < w.length → rd w (j : Int) ∉ w.take j := by
  unfold List.Nodup
  rw [List.pairwise_iff_getElem]
  constructor
  · intro h j hj hm
    rw [rd_getElem w j hj] at hm
    obtain ⟨i, hi, e⟩ := List.mem_iff_getElem.1 hm
    have hi' : i < j := by simp at hi; omega
    exact h i j (by omega) hj hi' (by simpa using e)
  · intro h i j hi hj hij e
    refine h j hj ?_
    rw [rd_getElem w j hj, ← e]
    exact List.mem_iff_getElem.2 ⟨i, by simp; omega, by simp⟩
/-- A way of a net. -/
structure IsWay (n : Int) (E : List T) (w : List Int) : Prop where
  ne : w ≠ []
  inn : ∀ v ∈ w, In n v
  nd : w.Nodup
  walk : Walk (Has E) w
/-- What is asked at an index. -/
def WayAt (n : Int) (E : List T) (w : List Int) (j : Nat) : Prop := In n (rd w (j : Int)) ∧ rd w (j : Int) ∉ w.take j ∧ (0 < j → Has E (rd w ((j - 1 : Nat) : Int)) (rd w (j : Int)))
theorem isWay_iff (n : Int) (E : List T) (w : List Int) : IsWay n E w ↔ w ≠ [] ∧ ∀ j, 0 ≤ j → j < w.length → WayAt n E w j := by
  constructor
  · intro h
    refine ⟨h.ne, fun j _ hj => ⟨h.inn _ (by rw [rd_getElem w j hj]; exact List.getElem_mem hj), (nodup_iff w).1 h.nd j hj, fun h0 => ?_⟩⟩
    have := (walk_iff _ w).1 h.walk (j - 1) (by omega)
    rwa [show j - 1 + 1 = j by omega] at this
  · rintro ⟨h0, h⟩
    refine ⟨h0, fun v hv => ?_, (nodup_iff w).2 fun j hj => (h j (Nat.zero_le _) hj).2.1, (walk_iff _ w).2 fun j hj => ?_⟩
    · obtain ⟨j, _, hj, rfl⟩ := (mem_iff_rd w v).1 hv
      exact (h j (Nat.zero_le _) hj).1
    · exact (h (j + 1) (Nat.zero_le _) hj).2.2 (by omega)
theorem ev_spec_WayOk (n : Int) (E : List T) (w : List Int) (hE : E.length ≤ 1048576) (hw : WF E) (hl : w.length ≤ 1048576) : Ev (fun k => spec_WayOk.f k n E w) (dec (OK n E ∧ IsWay n E w)) := by
  simp only [spec_WayOk.f]
  refine Ev.bind (ev_spec_NetOk n E hE hw) ?_
  by_cases ok : OK n E
  · refine Ev.pos (dec_t ok) (Ev.succ ?_)
    simp only [spec_WayOk.j0]
    by_cases h0 : (w.length : Int) < 1
    · refine Ev.pos (decide_eq_true h0) (Ev.ff (fun h => h.2.ne (List.length_eq_zero_iff.1 (by omega))) (Ev.now _))
    · refine Ev.neg (by simp only [decide_eq_true_eq]; exact h0) ?_
      have := all_loop (L := fun k i => spec_WayOk.l0 k w i n E) w.length (WayAt n E w) ?_ ?_ ?_ w.length 0 (by omega)
      · refine Ev.cast this (dec_congr ?_)
        rw [isWay_iff]
        exact ⟨fun h => ⟨ok, fun e => by subst e; simp at h0, h⟩, fun h => h.2.2⟩
      · refine Ev.succ ?_
        simp only [spec_WayOk.l0]
        exact Ev.neg (by omega) (Ev.now _)
      · intro i hi hp b hb
        refine Ev.succ ?_
        simp only [spec_WayOk.l0]
        refine Ev.pos (by omega) (Ev.pos (by omega) (Ev.bind (ev_l1Knot n E _ hE hw) (Ev.pos (dec_t ⟨ok, hp.1⟩) (Ev.pos (by omega) ?_))))
        rw [Int.toNat_natCast]
        refine Ev.bind (ev_l2Has _ _ (by simp; omega)) (Ev.neg (by rw [dec_f hp.2.1]; simp) ?_)
        cases i with
        | zero => exact Ev.neg (by omega) (by rw [w64 (by omega)]; exact hb)
        | succ j =>
          refine Ev.pos (by omega) ?_
          have hj : wrap64 (((j + 1 : Nat) : Int) - 1) = (j : Int) := by rw [w64 (by omega)]; omega
          rw [hj]
          refine Ev.pos (by omega) (Ev.pos (by omega) (Ev.bind (ev_spec_NetHas n E _ _ hE hw) (Ev.pos (dec_t ⟨ok, hp.2.2 (by omega)⟩) ?_)))
          rw [w64 (by omega)]; exact hb
      · intro i hi hp
        refine Ev.succ ?_
        simp only [spec_WayOk.l0]
        refine Ev.pos (by omega) (Ev.pos (by omega) (Ev.bind (ev_l1Knot n E _ hE hw) ?_))
        by_cases h1 : In n (rd w (i : Int))
        · refine Ev.pos (dec_t ⟨ok, h1⟩) (Ev.pos (by omega) ?_)
          rw [Int.toNat_natCast]
          refine Ev.bind (ev_l2Has _ _ (by simp; omega)) ?_
          by_cases h2 : rd w (i : Int) ∈ w.take i
          · exact Ev.pos (dec_t h2) (Ev.now _)
          · refine Ev.neg (by rw [dec_f h2]; simp) ?_
            cases i with
            | zero => exact absurd ⟨h1, h2, fun h => absurd h (by omega)⟩ hp
            | succ j =>
              refine Ev.pos (by omega) ?_
              have hj : wrap64 (((j + 1 : Nat) : Int) - 1) = (j : Int) := by rw [w64 (by omega)]; omega
              rw [hj]
              refine Ev.pos (by omega) (Ev.pos (by omega) (Ev.bind (ev_spec_NetHas n E _ _ hE hw) (Ev.neg ?_ (Ev.now _))))
              rw [dec_f (fun h => hp ⟨h1, h2, fun _ => h.2⟩)]; simp
        · exact Ev.neg (by rw [dec_f (fun h => h1 h.2)]; simp) (Ev.now _)
  · refine Ev.neg (by rw [dec_f ok]; simp) (Ev.succ ?_)
    simp only [spec_WayOk.j0]
    exact Ev.pos trivial (Ev.ff (fun h => ok h.1) (Ev.now _))
theorem ev_walk (n : Int) (E : List T) (w : List Int) (hE : E.length ≤ 1048576) (hl : w.length ≤ 1048576) : Ev (fun k => impl_Net_walk.f k n E w) (dec ((∀ v ∈ w, In n v) ∧ Walk (Has E) w)) := by
  simp only [impl_Net_walk.f]
  have := all_loop (L := fun k i => impl_Net_walk.l0 k w w w.length i n E) w.length (fun j => In n (rd w (j : Int)) ∧ (0 < j → Has E (rd w ((j - 1 : Nat) : Int)) (rd w (j : Int)))) ?_ ?_ ?_ w.length 0 (by omega)
  · refine Ev.cast this (dec_congr ?_)
    constructor
    · intro h
      refine ⟨fun v hv => ?_, (walk_iff _ w).2 fun j hj => (h (j + 1) (Nat.zero_le _) hj).2 (by omega)⟩
      obtain ⟨j, _, hj, rfl⟩ := (mem_iff_rd w v).1 hv
      exact (h j (Nat.zero_le _) hj).1
    · intro h j _ hj
      refine ⟨h.1 _ (by rw [rd_getElem w j hj]; exact List.getElem_mem hj), fun h0 => ?_⟩
      have := (walk_iff _ w).1 h.2 (j - 1) (by omega)
      rwa [show j - 1 + 1 = j by omega] at this
  · refine Ev.succ ?_
    simp only [impl_Net_walk.l0]
    exact Ev.neg (by omega) (Ev.now _)
  · intro i hi hp b hb
    refine Ev.succ ?_
    simp only [impl_Net_walk.l0]
    refine Ev.pos (by omega) (Ev.pos (by omega) (Ev.pos (by omega) (Ev.bind0 (knot_eq n E _) (Ev.pos (dec_t hp.1) ?_))))
    cases i with
    | zero => exact Ev.neg (by omega) (by rw [w64 (by omega)]; exact hb)
    | succ j =>
      refine Ev.pos (by omega) ?_
      have hj : wrap64 (((j + 1 : Nat) : Int) - 1) = (j : Int) := by rw [w64 (by omega)]; omega
      rw [hj]
      refine Ev.pos (by omega) (Ev.pos (by omega) (Ev.bind (ev_has n E _ _ hE) (Ev.pos (dec_t (hp.2 (by omega))) ?_)))
      rw [w64 (by omega)]; exact hb
  · intro i hi hp
    refine Ev.succ ?_
    simp only [impl_Net_walk.l0]
    refine Ev.pos (by omega) (Ev.pos (by omega) (Ev.pos (by omega) (Ev.bind0 (knot_eq n E _) ?_)))
    by_cases h1 : In n (rd w (i : Int))
    · refine Ev.pos (dec_t h1) ?_
      cases i with
      | zero => exact absurd ⟨h1, fun h => absurd h (by omega)⟩ hp
      | succ j =>
        refine Ev.pos (by omega) ?_
        have hj : wrap64 (((j + 1 : Nat) : Int) - 1) = (j : Int) := by rw [w64 (by omega)]; omega
        rw [hj]
        refine Ev.pos (by omega) (Ev.pos (by omega) (Ev.bind (ev_has n E _ _ hE) (Ev.neg ?_ (Ev.now _))))
        rw [dec_f (show ¬ Has E (rd w (j : Int)) (rd w ((j + 1 : Nat) : Int)) from fun h => hp ⟨h1, fun _ => h⟩)]; simp
    · exact Ev.neg (by rw [dec_f h1]; simp) (Ev.now _)
theorem ev_different (w : List Int) (hl : w.length ≤ 1048576) : Ev (fun k => impl_different.f k w) (dec w.Nodup) := by
  simp only [impl_different.f]
  have := all_loop (L := fun k i => impl_different.l0 k w w w.length i) w.length (fun j => rd w (j : Int) ∉ w.take j) ?_ ?_ ?_ w.length 0 (by omega)
  · refine Ev.cast this (dec_congr ?_)
    rw [nodup_iff]
    exact ⟨fun h j hj => h j (Nat.zero_le _) hj, fun h j _ hj => h j hj⟩
  · refine Ev.succ ?_
    simp only [impl_different.l0]
    exact Ev.neg (by omega) (Ev.now _)
  · intro i hi hp b hb
    refine Ev.succ ?_
    simp only [impl_different.l0]
    refine Ev.pos (by omega) (Ev.pos (by omega) (Ev.pos (by omega) (Ev.pos (by omega) ?_)))
    rw [Int.toNat_natCast]
    refine Ev.bind (ev_containsInt _ _ (by simp; omega)) (Ev.neg (by rw [dec_f hp]; simp) ?_)
    rw [w64 (by omega)]; exact hb
  · intro i hi hp
    refine Ev.succ ?_
    simp only [impl_different.l0]
    refine Ev.pos (by omega) (Ev.pos (by omega) (Ev.pos (by omega) (Ev.pos (by omega) ?_)))
    rw [Int.toNat_natCast]
    exact Ev.bind (ev_containsInt _ _ (by simp; omega)) (Ev.pos (dec_t (Decidable.not_not.1 hp)) (Ev.now _))
theorem ev_impl_WayOk (n : Int) (E : List T) (w : List Int) (hE : E.length ≤ 1048576) (hl : w.length ≤ 1048576) : Ev (fun k => impl_WayOk.f k n E w) (dec (OK n E ∧ IsWay n E w)) := by
  simp only [impl_WayOk.f]
  refine Ev.bind (ev_impl_NetOk n E hE) ?_
  by_cases ok : OK n E
  · refine Ev.pos (dec_t ok) ?_
    by_cases h0 : (w.length : Int) > 0
    · refine Ev.pos h0 (Ev.bind (ev_walk n E w hE hl) ?_)
      by_cases h1 : (∀ v ∈ w, In n v) ∧ Walk (Has E) w
      · refine Ev.pos (dec_t h1) (Ev.bind (ev_different w hl) (Ev.some_ (dec_congr ?_)))
        exact ⟨fun h => ⟨ok, fun e => by subst e; simp at h0, h1.1, h, h1.2⟩, fun h => h.2.nd⟩
      · exact Ev.neg (by rw [dec_f h1]; simp) (Ev.ff (fun h => h1 ⟨h.2.inn, h.2.walk⟩) (Ev.now _))
    · exact Ev.neg h0 (Ev.ff (fun h => h.2.ne (List.length_eq_zero_iff.1 (by omega))) (Ev.now _))
  · exact Ev.neg (by rw [dec_f ok]; simp) (Ev.ff (fun h => ok h.1) (Ev.now _))

/-! ### two ways -/
/-- A way from one knot to another one, of a valid net. -/
def Leads (n : Int) (E : List T) (a b : Int) (w : List Int) : Prop := OK n E ∧ IsWay n E w ∧ rd w 0 = a ∧ rd w ((w.length : Int) - 1) = b
theorem Leads.pos {n : Int} {E : List T} {a b : Int} {w : List Int} (h : Leads n E a b w) : 0 < w.length := List.length_pos_iff.2 h.2.1.ne
theorem Leads.two {n : Int} {E : List T} {a b : Int} {w : List Int} (h : Leads n E a b w) (hab : a ≠ b) : 2 ≤ w.length := by
  have h0 := h.pos
  by_cases h1 : w.length = 1
  · exact absurd (by rw [← h.2.2.1, ← h.2.2.2, h1]; rfl) hab
  · omega
theorem ev_l13Ends (n : Int) (E : List T) (a b : Int) (w : List Int) (hE : E.length ≤ 1048576) (hw : WF E) (hl : w.length ≤ 1048576) : Ev (fun k => spec_l13Ends.f k n E a b w) (dec (Leads n E a b w)) := by
  simp only [spec_l13Ends.f]
  refine Ev.bind (ev_spec_WayOk n E w hE hw hl) ?_
  by_cases h : OK n E ∧ IsWay n E w
  · have h0 : 0 < w.length := List.length_pos_iff.2 h.2.ne
    refine Ev.pos (dec_t h) (Ev.pos (by omega) ?_)
    by_cases ha : rd w 0 = a
    · refine Ev.pos ha ?_
      rw [w64 (by omega)]
      refine Ev.pos (by omega) (Ev.pos (by omega) (Ev.some_ (dec_of ?_)))
      rw [beq_iff_eq]
      exact ⟨fun hb => ⟨h.1, h.2, ha, hb⟩, fun k => k.2.2.2⟩
    · exact Ev.neg ha (Ev.ff (fun k => ha k.2.2.1) (Ev.now _))
  · exact Ev.neg (by rw [dec_f h]; simp) (Ev.ff (fun k => h ⟨k.1, k.2.1⟩) (Ev.now _))
theorem ev_leads (n : Int) (E : List T) (a b : Int) (w : List Int) (hE : E.length ≤ 1048576) (hl : w.length ≤ 1048576) : Ev (fun k => impl_leads.f k n E w a b) (dec (Leads n E a b w)) := by
  simp only [impl_leads.f]
  refine Ev.bind (ev_impl_WayOk n E w hE hl) ?_
  by_cases h : OK n E ∧ IsWay n E w
  · have h0 : 0 < w.length := List.length_pos_iff.2 h.2.ne
    refine Ev.pos (dec_t h) (Ev.pos (by omega) ?_)
    by_cases ha : rd w 0 = a
    · refine Ev.pos ha ?_
      rw [w64 (by omega)]
      refine Ev.pos (by omega) (Ev.pos (by omega) (Ev.some_ (dec_of ?_)))
      rw [beq_iff_eq]
      exact ⟨fun hb => ⟨h.1, h.2, ha, hb⟩, fun k => k.2.2.2⟩
    · exact Ev.neg ha (Ev.ff (fun k => ha k.2.2.1) (Ev.now _))
  · exact Ev.neg (by rw [dec_f h]; simp) (Ev.ff (fun k => h ⟨k.1, k.2.1⟩) (Ev.now _))
/-- Two ways with the same ends are apart. -/
def Apart (x y : List Int) : Prop := ¬ (x.length = 2 ∧ y.length = 2) ∧ ∀ i : Nat, 1 ≤ i → i + 1 < x.length → rd x (i : Int) ∉ y
def Two (n : Int) (E : List T) (a b : Int) (x y : List Int) : Prop := a ≠ b ∧ Leads n E a b x ∧ Leads n E a b y ∧ Apart x y
theorem ev_spec_TwoOk (n : Int) (E : List T) (a b : Int) (x y : List Int) (hE : E.length ≤ 1048576) (hw : WF E) (hx : x.length ≤ 1048576) (hy : y.length ≤ 1048576) : Ev (fun k => spec_TwoOk.f k n E a b x y) (dec (Two n E a b x y)) := by
  simp only [spec_TwoOk.f]
  have no : ¬ Two n E a b x y → Ev (fun k => spec_TwoOk.j0 k x y true) (dec (Two n E a b x y)) := fun h => by
    refine Ev.succ ?_
    simp only [spec_TwoOk.j0]
    exact Ev.pos trivial (Ev.ff h (Ev.now _))
  by_cases hab : a = b
  · exact Ev.pos hab (no (fun h => h.1 hab))
  · refine Ev.neg hab (Ev.bind (ev_l13Ends n E a b x hE hw hx) ?_)
    by_cases h1 : Leads n E a b x
    · refine Ev.pos (dec_t h1) (Ev.bind (ev_l13Ends n E a b y hE hw hy) ?_)
      by_cases h2 : Leads n E a b y
      · refine Ev.pos (dec_t h2) ?_
        have go : ¬ (x.length = 2 ∧ y.length = 2) → Ev (fun k => spec_TwoOk.j0 k x y false) (dec (Two n E a b x y)) := fun h3 => by
          refine Ev.succ ?_
          simp only [spec_TwoOk.j0]
          refine Ev.neg (by simp) ?_
          have hx2 := h1.two hab
          have := all_loop (L := fun k i => spec_TwoOk.l0 k x y i) (x.length - 1) (fun j => rd x (j : Int) ∉ y) ?_ ?_ ?_ (x.length - 2) 1 (by omega)
          · refine Ev.cast this (dec_congr ?_)
            exact ⟨fun h => ⟨hab, h1, h2, h3, fun i a b => h i a (by omega)⟩, fun h i a b => h.2.2.2.2 i a (by omega)⟩
          · refine Ev.succ ?_
            simp only [spec_TwoOk.l0]
            rw [w64 (by omega)]
            exact Ev.neg (by omega) (Ev.now _)
          · intro i hi hp c hc
            refine Ev.succ ?_
            simp only [spec_TwoOk.l0]
            rw [w64 (by omega)]
            refine Ev.pos (by omega) (Ev.pos (by omega) (Ev.pos (by omega) (Ev.bind (ev_l2Has _ _ hy) (Ev.neg (by rw [dec_f hp]; simp) ?_))))
            exact hc
          · intro i hi hp
            refine Ev.succ ?_
            simp only [spec_TwoOk.l0]
            rw [w64 (by omega)]
            exact Ev.pos (by omega) (Ev.pos (by omega) (Ev.pos (by omega) (Ev.bind (ev_l2Has _ _ hy) (Ev.pos (dec_t (Decidable.not_not.1 hp)) (Ev.now _)))))
        by_cases hx2 : (x.length : Int) = 2
        · refine Ev.pos hx2 ?_
          by_cases hy2 : (y.length : Int) = 2
          · rw [show ((y.length : Int) == 2) = true by simp [hy2]]
            exact no (fun h => h.2.2.2.1 ⟨by omega, by omega⟩)
          · rw [show ((y.length : Int) == 2) = false by simp [hy2]]
            exact go (by omega)
        · exact Ev.neg hx2 (go (by omega))
      · exact Ev.neg (by rw [dec_f h2]; simp) (no (fun h => h2 h.2.2.1))
    · exact Ev.neg (by rw [dec_f h1]; simp) (no (fun h => h1 h.2.1))
theorem ev_disjoint (x y : List Int) (hx : 2 ≤ x.length) (hx' : x.length ≤ 1048576) (hy : y.length ≤ 1048576) : Ev (fun k => impl_disjoint.f k x y) (dec (Apart x y)) := by
  simp only [impl_disjoint.f]
  have go : ¬ (x.length = 2 ∧ y.length = 2) → Ev (fun k => impl_disjoint.j0 k x y false) (dec (Apart x y)) := fun h3 => by
    refine Ev.succ ?_
    simp only [impl_disjoint.j0]
    refine Ev.neg (by simp) ?_
    rw [w64 (by omega)]
    refine Ev.pos (by omega) (Ev.pos (by omega) ?_)
    have e1 : ((x.length : Int) - 1).toNat = x.length - 1 := by omega
    rw [e1]
    have hlen : ((x.take (x.length - 1)).drop 1).length = x.length - 2 := by simp; omega
    have hrd : ∀ i : Nat, i < x.length - 2 → rd ((x.take (x.length - 1)).drop 1) (i : Int) = rd x ((i + 1 : Nat) : Int) := fun i hi => by
      rw [rd_getElem _ i (by omega), rd_getElem _ (i + 1) (by omega)]
      simp
    have := all_loop (L := fun k i => impl_disjoint.l0 k y ((x.take (x.length - 1)).drop 1) (((x.take (x.length - 1)).drop 1).length : Int) i) (x.length - 2) (fun j => rd x ((j + 1 : Nat) : Int) ∉ y) ?_ ?_ ?_ (x.length - 2) 0 (by omega)
    · refine Ev.cast this (dec_congr ?_)
      refine ⟨fun h => ⟨h3, fun i a b => ?_⟩, fun h i a b => h.2 (i + 1) (by omega) (by omega)⟩
      have := h (i - 1) (Nat.zero_le _) (by omega)
      rwa [show i - 1 + 1 = i by omega] at this
    · refine Ev.succ ?_
      simp only [impl_disjoint.l0]
      exact Ev.neg (by omega) (Ev.now _)
    · intro i hi hp c hc
      refine Ev.succ ?_
      simp only [impl_disjoint.l0]
      refine Ev.pos (by omega) (Ev.pos (by omega) (Ev.pos (by omega) ?_))
      rw [hrd i hi]
      refine Ev.bind (ev_containsInt _ _ hy) (Ev.neg (by rw [dec_f hp]; simp) ?_)
      rw [w64 (by omega)]
      exact hc
    · intro i hi hp
      refine Ev.succ ?_
      simp only [impl_disjoint.l0]
      refine Ev.pos (by omega) (Ev.pos (by omega) (Ev.pos (by omega) ?_))
      rw [hrd i hi]
      exact Ev.bind (ev_containsInt _ _ hy) (Ev.pos (dec_t (Decidable.not_not.1 hp)) (Ev.now _))
  by_cases hx2 : (x.length : Int) = 2
  · refine Ev.pos hx2 ?_
    by_cases hy2 : (y.length : Int) = 2
    · rw [show ((y.length : Int) == 2) = true by simp [hy2]]
      refine Ev.succ ?_
      simp only [impl_disjoint.j0]
      exact Ev.pos trivial (Ev.ff (fun h => h.1 ⟨by omega, by omega⟩) (Ev.now _))
    · rw [show ((y.length : Int) == 2) = false by simp [hy2]]
      exact go (by omega)
  · exact Ev.neg hx2 (go (by omega))
theorem ev_impl_TwoOk (n : Int) (E : List T) (a b : Int) (x y : List Int) (hE : E.length ≤ 1048576) (hx : x.length ≤ 1048576) (hy : y.length ≤ 1048576) : Ev (fun k => impl_TwoOk.f k n E a b x y) (dec (Two n E a b x y)) := by
  simp only [impl_TwoOk.f]
  by_cases hab : a = b
  · exact Ev.pos hab (Ev.ff (fun h => h.1 hab) (Ev.now _))
  · refine Ev.neg hab (Ev.bind (ev_leads n E a b x hE hx) ?_)
    by_cases h1 : Leads n E a b x
    · refine Ev.pos (dec_t h1) (Ev.bind (ev_leads n E a b y hE hy) ?_)
      by_cases h2 : Leads n E a b y
      · refine Ev.pos (dec_t h2) (Ev.bind (ev_disjoint x y (h1.two hab) hx hy) (Ev.some_ (dec_congr ?_)))
        exact ⟨fun h => ⟨hab, h1, h2, h⟩, fun h => h.2.2.2⟩
      · exact Ev.neg (by rw [dec_f h2]; simp) (Ev.ff (fun h => h2 h.2.2.1) (Ev.now _))
    · exact Ev.neg (by rw [dec_f h1]; simp) (Ev.ff (fun h => h1 h.2.1) (Ev.now _))
end Go.Proofs.Ytdlnnjgjfngccaa.Th
