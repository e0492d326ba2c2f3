/-
Lists and loops: tables of Bool and Int that are set at places; sums and counts of such.
-/
import Derived.Test.YtdlnnjgjfngccaaThEv
namespace Go.Proofs.Ytdlnnjgjfngccaa.Th
open Go.RowKit Go.Proofs.YtdlnnjgjfngccaaW.PrintWords Go.Proofs.YtdlnnjgjfngccaaW.PrintLast Go.Proofs.YtdlnnjgjfngccaaW.PrintMore Go.Proofs.Ytdlnnjgjfngccaa.F

/-- The knots 0, 1, .. of a net. -/
def ks (n : Int) : List Int := (List.range n.toNat).map (fun i : Nat => (i : Int))
theorem mem_ks {n k : Int} : k ∈ ks n ↔ 0 ≤ k ∧ k < n := by
  unfold ks
  simp only [List.mem_map, List.mem_range]
  exact ⟨fun ⟨i, h, e⟩ => by omega, fun h => ⟨k.toNat, by omega, by omega⟩⟩
theorem ks_length (n : Int) : (ks n).length = n.toNat := by simp [ks]
theorem ks_getElem (n : Int) (i : Nat) (h : i < (ks n).length) : (ks n)[i] = (i : Int) := by simp [ks]
theorem ks_pairwise (n : Int) : (ks n).Pairwise (· < ·) := by
  refine List.pairwise_iff_getElem.2 (fun i j hi hj h => ?_)
  rw [ks_getElem, ks_getElem]; omega
theorem ks_nodup (n : Int) : (ks n).Nodup := (ks_pairwise n).imp (fun h => by omega)
/-- Counting on from j. -/
def ksFrom (n j : Int) : List Int := (ks n).drop j.toNat
theorem ksFrom_zero (n : Int) : ksFrom n 0 = ks n := by simp [ksFrom]
theorem ksFrom_end {n j : Int} (h : n ≤ j) : ksFrom n j = [] := by
  unfold ksFrom
  exact List.drop_of_length_le (by rw [ks_length]; omega)
theorem ksFrom_cons {n j : Int} (h0 : 0 ≤ j) (h : j < n) : ksFrom n j = j :: ksFrom n (j + 1) := by
  unfold ksFrom
  rw [List.drop_eq_getElem_cons (by rw [ks_length]; omega), ks_getElem]
  rw [show (j + 1).toNat = j.toNat + 1 by omega]
  congr 1
  omega
theorem ks_split {n j : Int} (h0 : 0 ≤ j) (h : j < n) : ks n = ks j ++ j :: ksFrom n (j + 1) := by
  have : ks j = (ks n).take j.toNat := by
    unfold ks
    rw [← List.map_take, List.take_range, Nat.min_eq_left (by omega)]
  rw [this, ← ksFrom_cons h0 h, ksFrom, List.take_append_drop]
theorem ks_succ {j : Int} (h0 : 0 ≤ j) : ks (j + 1) = ks j ++ [j] := by
  rw [ks_split h0 (by omega : j < j + 1), ksFrom_end (by omega)]

theorem rd_i (l : List Int) (x : Int) (h : 0 ≤ x) (k : x < l.length) : rd l x = l[x.toNat]'(by omega) := by
  simp [rd, List.getD_eq_getElem?_getD, List.getElem?_eq_getElem (show x.toNat < l.length by omega)]
theorem rdB_i (l : List Bool) (x : Int) (h : 0 ≤ x) (k : x < l.length) : rdOf false l x = l[x.toNat]'(by omega) := by
  simp [rdOf, List.getD_eq_getElem?_getD, List.getElem?_eq_getElem (show x.toNat < l.length by omega)]
theorem rd_set (l : List Int) (i j x : Int) (h : 0 ≤ i) (k : i < l.length) (hj : 0 ≤ j) : rd (l.set i.toNat x) j = if j = i then x else rd l j := by
  unfold rd
  simp only [List.getD_eq_getElem?_getD]
  by_cases e : j = i
  · subst e
    rw [List.getElem?_set_self (by omega), if_pos rfl]; rfl
  · rw [if_neg e, List.getElem?_set_ne (by omega)]
theorem rdB_set (l : List Bool) (i j : Int) (x : Bool) (h : 0 ≤ i) (k : i < l.length) (hj : 0 ≤ j) : rdOf false (l.set i.toNat x) j = if j = i then x else rdOf false l j := by
  unfold rdOf
  simp only [List.getD_eq_getElem?_getD]
  by_cases e : j = i
  · subst e
    rw [List.getElem?_set_self (by omega), if_pos rfl]; rfl
  · rw [if_neg e, List.getElem?_set_ne (by omega)]
theorem ext_rd {a b : List Int} (h : a.length = b.length) (k : ∀ x : Int, 0 ≤ x → x < a.length → rd a x = rd b x) : a = b := by
  refine List.ext_getElem h (fun i h1 h2 => ?_)
  have := k i (by omega) (by omega)
  rw [rd_i a i (by omega) (by omega), rd_i b i (by omega) (by omega)] at this
  exact this
theorem ext_rdB {a b : List Bool} (h : a.length = b.length) (k : ∀ x : Int, 0 ≤ x → x < a.length → rdOf false a x = rdOf false b x) : a = b := by
  refine List.ext_getElem h (fun i h1 h2 => ?_)
  have := k i (by omega) (by omega)
  rw [rdB_i a i (by omega) (by omega), rdB_i b i (by omega) (by omega)] at this
  exact this
theorem rd_mapks (n : Int) (f : Int → Int) (x : Int) (h : 0 ≤ x) (k : x < n) : rd ((ks n).map f) x = f x := by
  rw [rd_i _ _ h (by rw [List.length_map, ks_length]; omega), List.getElem_map, ks_getElem]
  congr 1; omega
theorem rdB_mapks (n : Int) (f : Int → Bool) (x : Int) (h : 0 ≤ x) (k : x < n) : rdOf false ((ks n).map f) x = f x := by
  rw [rdB_i _ _ h (by rw [List.length_map, ks_length]; omega), List.getElem_map, ks_getElem]
  congr 1; omega

theorem sum_set : ∀ (l : List Int) (i : Nat) (x : Int) (h : i < l.length), (l.set i x).sum = l.sum - l[i] + x
  | [], i, x, h => by simp at h
  | a :: l, 0, x, h => by simp; omega
  | a :: l, i + 1, x, h => by
    have h' : i < l.length := by simpa using h
    have := sum_set l i x h'
    simp only [List.set_cons_succ, List.sum_cons, List.getElem_cons_succ, this]
    omega
theorem sum_nonneg : ∀ (l : List Int), (∀ x ∈ l, 0 ≤ x) → 0 ≤ l.sum
  | [], _ => by simp
  | a :: l, h => by
    have := sum_nonneg l (fun x hx => h x (by simp [hx]))
    have := h a (by simp)
    simp only [List.sum_cons]; omega
/-- How many are false. -/
def falses : List Bool → Nat
  | [] => 0
  | b :: l => (if b then 0 else 1) + falses l
theorem falses_set : ∀ (l : List Bool) (i : Nat) (h : i < l.length), l[i] = false → falses (l.set i true) + 1 = falses l
  | [], i, h, _ => by simp at h
  | a :: l, 0, h, e => by
    simp only [List.getElem_cons_zero] at e
    subst e
    simp [falses]; omega
  | a :: l, i + 1, h, e => by
    have h' : i < l.length := by simpa using h
    have := falses_set l i h' (by simpa using e)
    simp only [List.set_cons_succ, falses]
    omega
theorem falses_le : ∀ l : List Bool, falses l ≤ l.length
  | [] => by simp [falses]
  | b :: l => by have := falses_le l; simp only [falses, List.length_cons]; split <;> omega

/-! ### loops that ask of each index -/
theorem all_loop {L : Nat → Nat → Option Bool} (len : Nat) (p : Nat → Prop) (hend : Ev (fun k => L k len) true) (hyes : ∀ i, i < len → p i → ∀ b, Ev (fun k => L k (i + 1)) b → Ev (fun k => L k i) b)
    (hno : ∀ i, i < len → ¬ p i → Ev (fun k => L k i) false) : ∀ d i, i + d = len → Ev (fun k => L k i) (dec (∀ j, i ≤ j → j < len → p j))
  | 0, i, h => by
    obtain rfl : i = len := by omega
    exact Ev.tt (fun j h1 h2 => by omega) hend
  | d + 1, i, h => by
    by_cases hp : p i
    · refine Ev.cast (hyes i (by omega) hp _ (all_loop len p hend hyes hno d (i + 1) (by omega))) (dec_congr ?_)
      constructor
      · intro a j h1 h2
        by_cases e : j = i
        · subst e; exact hp
        · exact a j (by omega) h2
      · intro a j h1 h2; exact a j (by omega) h2
    · exact Ev.ff (fun a => hp (a i (Nat.le_refl _) (by omega))) (hno i (by omega) hp)
theorem any_loop {L : Nat → Nat → Option Bool} (len : Nat) (p : Nat → Prop) (hend : Ev (fun k => L k len) false) (hno : ∀ i, i < len → ¬ p i → ∀ b, Ev (fun k => L k (i + 1)) b → Ev (fun k => L k i) b)
    (hyes : ∀ i, i < len → p i → Ev (fun k => L k i) true) : ∀ d i, i + d = len → Ev (fun k => L k i) (dec (∃ j, i ≤ j ∧ j < len ∧ p j))
  | 0, i, h => by
    obtain rfl : i = len := by omega
    exact Ev.ff (fun ⟨j, h1, h2, _⟩ => by omega) hend
  | d + 1, i, h => by
    by_cases hp : p i
    · exact Ev.tt ⟨i, Nat.le_refl _, by omega, hp⟩ (hyes i (by omega) hp)
    · refine Ev.cast (hno i (by omega) hp _ (any_loop len p hend hno hyes d (i + 1) (by omega))) (dec_congr ?_)
      constructor
      · rintro ⟨j, h1, h2, h3⟩; exact ⟨j, by omega, h2, h3⟩
      · rintro ⟨j, h1, h2, h3⟩
        by_cases e : j = i
        · subst e; exact absurd h3 hp
        · exact ⟨j, by omega, h2, h3⟩

/-! ### numbers among numbers -/
theorem rd_getElem (l : List Int) (i : Nat) (h : i < l.length) : rd l (i : Int) = l[i] := by
  rw [rd_nat, List.getD_eq_getElem?_getD, List.getElem?_eq_getElem h, Option.getD_some]
theorem mem_iff_rd (l : List Int) (x : Int) : x ∈ l ↔ ∃ j, 0 ≤ j ∧ j < l.length ∧ rd l (j : Int) = x := by
  rw [List.mem_iff_getElem]
  constructor
  · rintro ⟨j, h, e⟩; exact ⟨j, Nat.zero_le _, h, by rw [rd_getElem l j h]; exact e⟩
  · rintro ⟨j, _, h, e⟩; exact ⟨j, h, by rw [← rd_getElem l j h]; exact e⟩
end Go.Proofs.Ytdlnnjgjfngccaa.Th
