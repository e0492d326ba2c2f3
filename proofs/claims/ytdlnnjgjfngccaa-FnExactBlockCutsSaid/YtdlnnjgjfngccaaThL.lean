/-
What the laws' own helpers compute: sizes, copies, comparisons of lists of numbers and of lists of lists.
-/
import Derived.Test.YtdlnnjgjfngccaaThEv
import Derived.Test.YtdlnnjgjfngccaaF2
import Derived.Test.YtdlnnjgjfngccaaF4
import Derived.Test.YtdlnnjgjfngccaaF5
namespace Go.Proofs.Ytdlnnjgjfngccaa.Th
open Go.RowKit Go.Proofs.YtdlnnjgjfngccaaW.PrintWords Go.Proofs.YtdlnnjgjfngccaaW.PrintLast Go.Proofs.YtdlnnjgjfngccaaW.PrintMore Go.Proofs.Ytdlnnjgjfngccaa.F

theorem rd_L1_le {l : List (List Int)} {n : Nat} (h : ∀ r ∈ l, r.length ≤ n) (i : Nat) : (rd_L1 l i).length ≤ n := by
  simp only [rd_L1, Int.toNat_natCast, List.getD_eq_getElem?_getD]
  cases e : l[i]? with
  | none => simp
  | some r => simpa using h r (List.mem_of_getElem? e)

/-! ### sizes -/
theorem szIntS (l : List Int) (a : Int) (hl : l.length ≤ maxLen) (ha : 0 ≤ a ∧ a ≤ 1048576) : laws_szIntS.f l a = some (if a - (l.length : Int) < 0 then -1 else a - l.length) := by
  unfold maxLen at hl
  unfold laws_szIntS.f
  rw [w64 (by omega)]
  split <;> rfl

theorem ev_szIntSS_loop (l : List (List Int)) (hl : l.length ≤ maxLen) (hr : ∀ r ∈ l, r.length ≤ maxLen) : ∀ (d i : Nat) (a : Int), i + d = l.length → 0 ≤ a ∧ a ≤ 1048576 →
    ∃ s, Ev (fun k => laws_szIntSS.l0 k l a i) s ∧ (¬ s < 0 → 0 ≤ s ∧ s ≤ a ∧ ∀ j, i ≤ j → (l.getD j []).length ≤ 1048576)
  | 0, i, a, h, ha => by
    unfold maxLen at hl
    refine ⟨a, ?_, fun _ => ⟨ha.1, Int.le_refl _, fun j hj => ?_⟩⟩
    · refine Ev.succ ?_
      simp only [laws_szIntSS.l0]
      refine Ev.neg (by omega) ?_
      exact Ev.now _
    · rw [List.getD_eq_getElem?_getD, List.getElem?_eq_none (by omega)]; simp
  | d + 1, i, a, h, ha => by
    have hl' := hl
    unfold maxLen at hl
    have hri : (rd_L1 l i).length ≤ maxLen := rd_L1_le hr i
    have hg : l.getD i [] = rd_L1 l i := by simp [rd_L1]
    by_cases hc : a - ((rd_L1 l i).length : Int) < 0
    · refine ⟨-1, ?_, fun h => absurd h (by omega)⟩
      refine Ev.succ ?_
      simp only [laws_szIntSS.l0]
      refine Ev.pos (by omega) ?_
      refine Ev.pos (by omega) ?_
      refine Ev.bind0 (by rw [szIntS _ a hri ha, if_pos hc]) ?_
      refine Ev.pos (by omega) ?_
      exact Ev.now _
    · obtain ⟨s, hs, hs'⟩ := ev_szIntSS_loop l hl' hr d (i + 1) (a - (rd_L1 l i).length) (by omega) (by omega)
      refine ⟨s, ?_, fun hn => ?_⟩
      · refine Ev.succ ?_
        simp only [laws_szIntSS.l0]
        refine Ev.pos (by omega) ?_
        refine Ev.pos (by omega) ?_
        refine Ev.bind0 (by rw [szIntS _ a hri ha, if_neg hc]) ?_
        refine Ev.neg (by omega) ?_
        rw [w64 (by omega)]
        exact hs
      · obtain ⟨h1, h2, h3⟩ := hs' hn
        refine ⟨h1, by omega, fun j hj => ?_⟩
        by_cases e : j = i
        · subst e; rw [hg]; omega
        · exact h3 j (by omega)

theorem ev_szIntSS (l : List (List Int)) (h : l.length ≤ maxLen ∧ ∀ r ∈ l, r.length ≤ maxLen ∧ ∀ x ∈ r, (Lit.int .i64 x).wf = true) :
    ∃ s, Ev (fun k => laws_szIntSS.f k l 1048576) s ∧ (¬ s < 0 → l.length ≤ 1048576 ∧ ∀ r ∈ l, r.length ≤ 1048576) := by
  have hl := h.1
  have hl' := hl
  unfold maxLen at hl'
  simp only [laws_szIntSS.f]
  rw [w64 (by omega)]
  by_cases hc : (1048576 : Int) - (l.length : Int) < 0
  · exact ⟨-1, Ev.pos hc (Ev.now _), fun h => absurd h (by omega)⟩
  · obtain ⟨s, hs, hs'⟩ := ev_szIntSS_loop l hl (fun r hr => (h.2 r hr).1) l.length 0 (1048576 - l.length) (by omega) (by omega)
    refine ⟨s, Ev.neg hc hs, fun hn => ⟨by omega, fun r hr => ?_⟩⟩
    obtain ⟨i, hi, rfl⟩ := List.mem_iff_getElem.1 hr
    have := (hs' hn).2.2 i (Nat.zero_le _)
    rwa [List.getD_eq_getElem?_getD, List.getElem?_eq_getElem hi] at this

/-! ### copies -/
theorem ev_toIntS_loop (l : List Int) (hl : l.length ≤ 1048576) : ∀ (d i : Nat) (acc : List Int), i + d = l.length → acc = l.take i ++ List.replicate d 0 → Ev (fun k => laws_toIntS.l0 k l acc i) l
  | 0, i, acc, h, ha => by
    refine Ev.succ ?_
    simp only [laws_toIntS.l0]
    refine Ev.neg (by omega) ?_
    refine Ev.some_ ?_
    rw [ha, List.replicate_zero, List.append_nil, List.take_of_length_le (by omega)]
  | d + 1, i, acc, h, ha => by
    have hlen : acc.length = l.length := by rw [ha]; simp; omega
    refine Ev.succ ?_
    simp only [laws_toIntS.l0]
    refine Ev.pos (by omega) ?_
    refine Ev.pos (by omega) ?_
    refine Ev.pos (by omega) ?_
    rw [w64 (by omega)]
    refine ev_toIntS_loop l hl d (i + 1) _ (by omega) ?_
    have hi : i < l.length := by omega
    rw [ha, Int.toNat_natCast, rd_nat, List.getD_eq_getElem?_getD, List.getElem?_eq_getElem hi, Option.getD_some, List.take_succ_eq_append_getElem hi, List.set_append_right _ _ (by simp; omega), List.append_assoc]
    congr 1
    simp [List.replicate_succ, show i - min i l.length = 0 by omega]

theorem ev_toIntS (l : List Int) (hl : l.length ≤ 1048576) : Ev (fun k => laws_toIntS.f k l) l := by
  simp only [laws_toIntS.f]
  refine Ev.pos (by omega) ?_
  refine Ev.pos (by omega) ?_
  exact ev_toIntS_loop l hl l.length 0 _ (by omega) (by simp)

theorem ev_toIntSS_loop (l : List (List Int)) (hl : l.length ≤ 1048576) (hr : ∀ r ∈ l, r.length ≤ 1048576) : ∀ (d i : Nat) (acc : List (List Int)), i + d = l.length → acc = l.take i ++ List.replicate d [] → Ev (fun k => laws_toIntSS.l0 k l acc i) l
  | 0, i, acc, h, ha => by
    refine Ev.succ ?_
    simp only [laws_toIntSS.l0]
    refine Ev.neg (by omega) ?_
    refine Ev.some_ ?_
    rw [ha, List.replicate_zero, List.append_nil, List.take_of_length_le (by omega)]
  | d + 1, i, acc, h, ha => by
    have hlen : acc.length = l.length := by rw [ha]; simp; omega
    refine Ev.succ ?_
    simp only [laws_toIntSS.l0]
    refine Ev.pos (by omega) ?_
    refine Ev.pos (by omega) ?_
    refine Ev.bind (ev_toIntS _ (rd_L1_le hr i)) ?_
    refine Ev.pos (by omega) ?_
    rw [w64 (by omega)]
    refine ev_toIntSS_loop l hl hr d (i + 1) _ (by omega) ?_
    have hi : i < l.length := by omega
    have hg : rd_L1 l i = l[i] := by simp [rd_L1, List.getD_eq_getElem?_getD, List.getElem?_eq_getElem hi]
    rw [ha, Int.toNat_natCast, hg, List.take_succ_eq_append_getElem hi, List.set_append_right _ _ (by simp; omega), List.append_assoc]
    congr 1
    simp [List.replicate_succ, show i - min i l.length = 0 by omega]

theorem ev_toIntSS (l : List (List Int)) (hl : l.length ≤ 1048576) (hr : ∀ r ∈ l, r.length ≤ 1048576) : Ev (fun k => laws_toIntSS.f k l) l := by
  simp only [laws_toIntSS.f]
  refine Ev.pos (by omega) ?_
  refine Ev.pos (by omega) ?_
  exact ev_toIntSS_loop l hl hr l.length 0 _ (by omega) (by simp)

/-! ### comparisons -/
theorem ev_eqIntS_loop (l : List Int) (hl : l.length ≤ 1048576) : ∀ (d i : Nat), i + d = l.length → Ev (fun k => laws_eqIntS.l0 k l l i) true
  | 0, i, h => by
    refine Ev.succ ?_
    simp only [laws_eqIntS.l0]
    refine Ev.neg (by omega) ?_
    exact Ev.now _
  | d + 1, i, h => by
    refine Ev.succ ?_
    simp only [laws_eqIntS.l0]
    refine Ev.pos (by omega) ?_
    refine Ev.pos (by omega) ?_
    refine Ev.pos (by omega) ?_
    refine Ev.pos (by first | rfl | trivial) ?_
    rw [w64 (by omega)]
    exact ev_eqIntS_loop l hl d (i + 1) (by omega)
theorem ev_eqIntS (l : List Int) (hl : l.length ≤ 1048576) : Ev (fun k => laws_eqIntS.f k l l) true := by
  simp only [laws_eqIntS.f]
  refine Ev.pos (by first | rfl | trivial) ?_
  exact ev_eqIntS_loop l hl l.length 0 (by omega)

theorem ev_eqIntSS_loop (l : List (List Int)) (hl : l.length ≤ 1048576) (hr : ∀ r ∈ l, r.length ≤ 1048576) : ∀ (d i : Nat), i + d = l.length → Ev (fun k => laws_eqIntSS.l0 k l l i) true
  | 0, i, h => by
    refine Ev.succ ?_
    simp only [laws_eqIntSS.l0]
    refine Ev.neg (by omega) ?_
    exact Ev.now _
  | d + 1, i, h => by
    refine Ev.succ ?_
    simp only [laws_eqIntSS.l0]
    refine Ev.pos (by omega) ?_
    refine Ev.pos (by omega) ?_
    refine Ev.pos (by omega) ?_
    refine Ev.bind (ev_eqIntS _ (rd_L1_le hr i)) ?_
    refine Ev.pos (by first | rfl | trivial) ?_
    rw [w64 (by omega)]
    exact ev_eqIntSS_loop l hl hr d (i + 1) (by omega)
theorem ev_eqIntSS (l : List (List Int)) (hl : l.length ≤ 1048576) (hr : ∀ r ∈ l, r.length ≤ 1048576) : Ev (fun k => laws_eqIntSS.f k l l) true := by
  simp only [laws_eqIntSS.f]
  refine Ev.pos (by first | rfl | trivial) ?_
  exact ev_eqIntSS_loop l hl hr l.length 0 (by omega)
end Go.Proofs.Ytdlnnjgjfngccaa.Th
