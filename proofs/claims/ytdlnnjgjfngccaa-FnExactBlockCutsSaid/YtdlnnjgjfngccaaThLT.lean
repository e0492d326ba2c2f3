/-
What the laws' own helpers on nets compute: sizes, copies, comparisons.
-/
import Derived.Test.YtdlnnjgjfngccaaTh1
import Derived.Test.YtdlnnjgjfngccaaF7
namespace Go.Proofs.Ytdlnnjgjfngccaa.Th
open Go.RowKit Go.Proofs.YtdlnnjgjfngccaaW.PrintWords Go.Proofs.YtdlnnjgjfngccaaW.PrintMore Go.Proofs.Ytdlnnjgjfngccaa.F

abbrev LT := S96
def conv (l : List LT) : List T := l.map fun t => ⟨t.f0, t.f1⟩
theorem conv_length (l : List LT) : (conv l).length = l.length := by simp [conv]
theorem conv_wf (l : List LT) (h : l.length ≤ maxLen ∧ ∀ x ∈ l, (Lit.int .i64 x.f0).wf = true ∧ (Lit.int .i64 x.f1).wf = true) : WF (conv l) := by
  intro t ht
  obtain ⟨s, hs, rfl⟩ := List.mem_map.1 ht
  exact ⟨wf_i64 (h.2 s hs).1, wf_i64 (h.2 s hs).2⟩
theorem rd_LT_nat (E : List LT) (i : Nat) (h : i < E.length) : rd_T96 E i = E[i] := by
  simp [rd_T96, List.getD_eq_getElem?_getD, List.getElem?_eq_getElem h]

theorem szNet (n : Int) (l : List LT) (hl : l.length ≤ maxLen) : laws_szNet.f n l 1048576 = some (if (l.length : Int) ≤ 1048576 then (1048576 : Int) - (l.length : Int) else (-1 : Int)) := by
  unfold maxLen at hl
  unfold laws_szNet.f laws_szTieS.f
  rw [w64 (by omega)]
  by_cases h : (l.length : Int) ≤ 1048576
  · rw [if_neg (by omega), if_pos h]
    simp only [Option.bind_some]
    rw [if_neg (by omega)]
  · rw [if_pos (by omega), if_neg h]
    simp only [Option.bind_some]
    rw [if_pos (by omega)]

theorem szTieS (l : List LT) (a : Int) (hl : l.length ≤ maxLen) (ha : 0 ≤ a ∧ a ≤ 1048576) : laws_szTieS.f l a = some (if a - (l.length : Int) < 0 then -1 else a - l.length) := by
  unfold maxLen at hl
  unfold laws_szTieS.f
  rw [w64 (by omega)]
  split <;> rfl

theorem ev_toTieS_loop (l : List LT) (hl : l.length ≤ 1048576) : ∀ (d i : Nat) (acc : List T), i + d = l.length → acc = (conv l).take i ++ List.replicate d z73 → Ev (fun k => laws_toTieS.l0 k l acc i) (conv l)
  | 0, i, acc, h, ha => by
    refine Ev.succ ?_
    simp only [laws_toTieS.l0]
    refine Ev.neg (by omega) (Ev.some_ ?_)
    rw [ha, List.replicate_zero, List.append_nil, List.take_of_length_le (by rw [conv_length]; omega)]
  | d + 1, i, acc, h, ha => by
    have hlen : acc.length = l.length := by rw [ha]; simp [conv_length]; omega
    have hi : i < l.length := by omega
    have hci : i < (conv l).length := by rw [conv_length]; exact hi
    refine Ev.succ ?_
    simp only [laws_toTieS.l0, rd_LT_nat l i hi]
    refine Ev.pos (by omega) (Ev.pos (by omega) (Ev.bind0 rfl (Ev.pos (by omega) ?_)))
    rw [w64 (by omega)]
    refine ev_toTieS_loop l hl d (i + 1) _ (by omega) ?_
    rw [ha, Int.toNat_natCast, List.take_succ_eq_append_getElem hci, List.set_append_right _ _ (by simp; omega), List.append_assoc]
    congr 1
    simp [List.replicate_succ, conv, show i - min i l.length = 0 by omega]
theorem ev_toTieS (l : List LT) (hl : l.length ≤ 1048576) : Ev (fun k => laws_toTieS.f k l) (conv l) := by
  simp only [laws_toTieS.f]
  refine Ev.pos (by omega) (Ev.pos (by omega) ?_)
  exact ev_toTieS_loop l hl l.length 0 _ (by omega) (by simp)
theorem ev_toNet (n : Int) (l : List LT) (hl : l.length ≤ 1048576) : Ev (fun k => laws_toNet.f k n l) (n, conv l) := by
  simp only [laws_toNet.f]
  exact Ev.bind (ev_toTieS l hl) (Ev.now _)
theorem ev_eqTieS_loop (l : List T) (hl : l.length ≤ 1048576) : ∀ (d i : Nat), i + d = l.length → Ev (fun k => laws_eqTieS.l0 k l l i) true
  | 0, i, h => by
    refine Ev.succ ?_
    simp only [laws_eqTieS.l0]
    exact Ev.neg (by omega) (Ev.now _)
  | d + 1, i, h => by
    refine Ev.succ ?_
    simp only [laws_eqTieS.l0]
    refine Ev.pos (by omega) (Ev.pos (by omega) (Ev.pos (by omega) (Ev.bind0 (a := true) (by simp [laws_eqTie.f]) (Ev.pos (by first | rfl | trivial) ?_))))
    rw [w64 (by omega)]
    exact ev_eqTieS_loop l hl d (i + 1) (by omega)
theorem ev_eqTieS (l : List T) (hl : l.length ≤ 1048576) : Ev (fun k => laws_eqTieS.f k l l) true := by
  simp only [laws_eqTieS.f]
  exact Ev.pos (by first | rfl | trivial) (ev_eqTieS_loop l hl l.length 0 (by omega))
theorem ev_eqNet (n : Int) (l : List T) (hl : l.length ≤ 1048576) : Ev (fun k => laws_eqNet.f k n l n l) true := by
  simp only [laws_eqNet.f]
  exact Ev.pos (by first | rfl | trivial) (Ev.bind (ev_eqTieS l hl) (Ev.pos (by first | rfl | trivial) (Ev.now _)))
end Go.Proofs.Ytdlnnjgjfngccaa.Th
