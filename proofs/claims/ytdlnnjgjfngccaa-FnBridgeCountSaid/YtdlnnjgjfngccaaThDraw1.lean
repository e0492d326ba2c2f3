/-
What the laws draw: that it is drawn at all, and of what size it is. Here: numbers, a tie more, nets.
-/
import Derived.Test.YtdlnnjgjfngccaaThCopy
import Derived.Test.YtdlnnjgjfngccaaThG
import Derived.Test.YtdlnnjgjfngccaaF45
import Derived.Test.YtdlnnjgjfngccaaF43
import Derived.Test.YtdlnnjgjfngccaaF44
import Derived.Test.YtdlnnjgjfngccaaF42
import Derived.Test.YtdlnnjgjfngccaaF41
namespace Go.Proofs.Ytdlnnjgjfngccaa.Th
open Go.RowKit Go.Proofs.YtdlnnjgjfngccaaW.PrintWords Go.Proofs.YtdlnnjgjfngccaaW.PrintLast Go.Proofs.YtdlnnjgjfngccaaW.PrintMore Go.Proofs.Ytdlnnjgjfngccaa.F

theorem xor_nonneg {x y : Int} (hx : 0 ≤ x ∧ x < 4611686018427387904) (hy : 0 ≤ y ∧ y < 4611686018427387904) : 0 ≤ Go.bits .xor .i64 x y := by
  have hlt : x.toNat ^^^ y.toNat < 2 ^ 62 := Nat.xor_lt_two_pow (by omega) (by omega)
  have e : (BitVec.ofInt 64 x ^^^ BitVec.ofInt 64 y).toNat = x.toNat ^^^ y.toNat := by
    rw [BitVec.toNat_xor, BitVec.toNat_ofInt, BitVec.toNat_ofInt]
    congr 1 <;> omega
  unfold Go.bits
  show 0 ≤ Go.IntKind.wrap .i64 ((BitVec.ofInt 64 x ^^^ BitVec.ofInt 64 y).toNat : Int)
  rw [e]
  rw [i64_w, w64 (by omega)]
  omega
/-- Bytes that are read. -/
def Bytes (s : List Int) : Prop := s.length ≤ 2000 ∧ ∀ x ∈ s, 0 ≤ x ∧ x ≤ 255
theorem Bytes.rd {s : List Int} (h : Bytes s) {i : Int} (h0 : 0 ≤ i) (h1 : i < s.length) : 0 ≤ rd s i ∧ rd s i ≤ 255 := by
  rw [rd_i s i h0 h1]
  exact h.2 _ (List.getElem_mem _)
/-- A draw of a number below another one: what it reads is one step further on. -/
theorem ev_pick {s : List Int} (h : Bytes s) {p : Int} (hp : 0 ≤ p ∧ p ≤ 1000000) (m : Int) (hm : m ≤ 1000000000) : ∃ v, Ev (fun k => spec_l6Rd_pick.f k s p m) (v, p + 1) ∧ (1 ≤ m → 0 ≤ v ∧ v < m) ∧ 0 ≤ v ∧ (v < m ∨ v = 0) := by
  by_cases hb : m < 1 ∨ s.length = 0
  · refine ⟨0, ?_, fun _ => by omega, by omega, Or.inr rfl⟩
    simp only [spec_l6Rd_pick.f]
    rw [w64 (x := p + 1) (by omega)]
    have j : Ev (fun k => spec_l6Rd_pick.j0 k m true s (p + 1)) (0, p + 1) := by
      refine Ev.succ ?_
      simp only [spec_l6Rd_pick.j0]
      exact Ev.pos trivial (Ev.now _)
    by_cases h1 : m < 1
    · exact Ev.pos h1 j
    · refine Ev.neg h1 ?_
      have e : ((s.length : Int) == 0) = true := by rw [beq_iff_eq]; omega
      rw [e]; exact j
  · have h1 : ¬ m < 1 := fun k => hb (Or.inl k)
    have h2 : ¬ s.length = 0 := fun k => hb (Or.inr k)
    have e : ((s.length : Int) == 0) = false := by rw [beq_eq_false_iff_ne]; omega
    have hl := h.1
    by_cases hk : p < s.length
    · have hr := h.rd hp.1 hk
      have hv := Int.tmod_nonneg m hr.1
      have hv' := Int.tmod_lt_of_pos (rd s p) (show 0 < m by omega)
      refine ⟨Int.tmod (rd s p) m, ?_, fun _ => ⟨hv, hv'⟩, hv, Or.inl hv'⟩
      simp only [spec_l6Rd_pick.f]
      rw [w64 (x := p + 1) (by omega), e]
      refine Ev.neg h1 (Ev.succ ?_)
      simp only [spec_l6Rd_pick.j0]
      rw [show p + 1 - 1 = p by omega, w64 (x := p) (by omega), w64 (x := rd s p) (by omega)]
      exact Ev.neg (by simp) (Ev.pos hk (Ev.pos hp.1 (Ev.neg (by omega) (Ev.now _))))
    · have hL : (0 : Int) < s.length := by omega
      have a0 := Int.tmod_nonneg (s.length : Int) hp.1
      have a1 := Int.tmod_lt_of_pos p hL
      have b0 := Int.tmod_nonneg (s.length : Int) (show 0 ≤ p * 7 + 3 by omega)
      have b1 := Int.tmod_lt_of_pos (p * 7 + 3) hL
      have ra := h.rd a0 a1
      have rb := h.rd b0 b1
      have d0 := Int.tdiv_nonneg hp.1 (show 0 ≤ (s.length : Int) by omega)
      have d1 : Int.tdiv p s.length ≤ p := Int.tdiv_le_self _ hp.1
      generalize hA : rd s (Int.tmod p s.length) = A at ra
      generalize hB : rd s (Int.tmod (p * 7 + 3) s.length) = B at rb
      generalize hD : Int.tdiv p s.length = D at d0 d1
      have q0 := Int.tdiv_nonneg (show 0 ≤ A * 131 + B * 1117 + p * 29 + D * 53 by omega) (show (0 : Int) ≤ 64 by omega)
      have q1 : Int.tdiv (A * 131 + B * 1117 + p * 29 + D * 53) 64 ≤ A * 131 + B * 1117 + p * 29 + D * 53 := Int.tdiv_le_self _ (by omega)
      have hx := xor_nonneg (x := A * 131 + B * 1117 + p * 29 + D * 53) (y := Int.tdiv (A * 131 + B * 1117 + p * 29 + D * 53) 64) (by omega) (by omega)
      have hv := Int.tmod_nonneg m hx
      have hv' := Int.tmod_lt_of_pos (Go.bits .xor .i64 (A * 131 + B * 1117 + p * 29 + D * 53) (Int.tdiv (A * 131 + B * 1117 + p * 29 + D * 53) 64)) (show 0 < m by omega)
      refine ⟨_, ?_, fun _ => ⟨hv, hv'⟩, hv, Or.inl hv'⟩
      simp only [spec_l6Rd_pick.f]
      rw [w64 (x := p + 1) (by omega), e]
      refine Ev.neg h1 (Ev.succ ?_)
      simp only [spec_l6Rd_pick.j0]
      rw [show p + 1 - 1 = p by omega, w64 (x := p) (by omega), w64 (x := p * 7) (by omega), w64 (x := p * 7 + 3) (by omega)]
      refine Ev.neg (by simp) (Ev.neg hk (Ev.neg (by omega) (Ev.pos a0 (Ev.pos a1 (Ev.pos b0 (Ev.pos b1 (Ev.neg (by omega) ?_)))))))
      rw [hA, hB, hD, w64 (x := A) (by omega), w64 (x := A * 131) (by omega), w64 (x := B) (by omega), w64 (x := B * 1117) (by omega), w64 (x := A * 131 + B * 1117) (by omega), w64 (x := p * 29) (by omega), w64 (x := A * 131 + B * 1117 + p * 29) (by omega),
        w64 (x := D) (by omega), w64 (x := D * 53) (by omega), w64 (x := A * 131 + B * 1117 + p * 29 + D * 53) (by omega), w64 (x := Int.tdiv (A * 131 + B * 1117 + p * 29 + D * 53) 64) (by omega)]
      exact Ev.now _
theorem l6Open (s : List Int) (h : s.length ≤ maxLen ∧ ∀ x ∈ s, (Lit.int .u8 x).wf = true) : ∃ s', spec_l6Open.f s = some (s', 0) ∧ Bytes s' := by
  unfold spec_l6Open.f
  by_cases h1 : (s.length : Int) > 2000
  · rw [if_pos h1, if_pos (by omega)]
    exact ⟨_, rfl, by rw [List.length_take]; omega, fun x hx => wf_u8 (h.2 x (List.mem_of_mem_take hx))⟩
  · rw [if_neg h1]
    exact ⟨_, rfl, by omega, fun x hx => wf_u8 (h.2 x hx)⟩

/-! ### a tie more -/
/-- Ties with one more, in order. -/
def insT (t : T) : List T → List T
  | [] => [t]
  | s :: r => if lt t s then t :: s :: r else s :: insT t r
theorem mem_insT {t u : T} : ∀ {E : List T}, u ∈ insT t E ↔ u = t ∨ u ∈ E
  | [] => by simp [insT]
  | s :: r => by
    unfold insT
    split
    · simp
    · simp only [List.mem_cons, mem_insT (E := r)]
      constructor
      · rintro (h | h | h)
        · exact Or.inr (Or.inl h)
        · exact Or.inl h
        · exact Or.inr (Or.inr h)
      · rintro (h | h | h)
        · exact Or.inr (Or.inl h)
        · exact Or.inl h
        · exact Or.inr (Or.inr h)
theorem asc_insT {t : T} : ∀ {E : List T}, Asc E → t ∉ E → Asc (insT t E)
  | [], _, _ => by simp [insT, Asc]
  | s :: r, h, hn => by
    have hs := List.pairwise_cons.1 h
    unfold insT
    split
    · next hl =>
      refine List.pairwise_cons.2 ⟨fun u hu => ?_, h⟩
      rcases List.mem_cons.1 hu with rfl | hu
      · exact hl
      · exact lt_trans hl (hs.1 u hu)
    · next hl =>
      refine List.pairwise_cons.2 ⟨fun u hu => ?_, asc_insT hs.2 (fun k => hn (List.mem_cons_of_mem _ k))⟩
      rcases mem_insT.1 hu with rfl | hu
      · rcases lt_tri s u with k | k | k
        · exact k
        · exact absurd (by rw [k]; exact List.mem_cons_self) hn
        · exact absurd k hl
      · exact hs.1 u hu
theorem OK.ins {n : Int} {E : List T} (h : OK n E) {a b : Int} (ha : In n a) (hb : In n b) (hab : a ≠ b) (hn : ¬ Has E a b) : OK n (insT (Th.tie a b) E) := by
  refine ⟨h.n0, h.n8, fun t ht => ?_, asc_insT h.asc hn⟩
  rcases mem_insT.1 ht with rfl | ht
  · unfold In at ha hb
    unfold Th.tie
    split <;> dsimp only <;> omega
  · exact h.tie t ht
theorem ev_NetAdd_done {n : Int} {E : List T} (t : T) (hE : E.length ≤ 1048576) : ∀ (d i : Nat) (out : List T), i + d = E.length → out.length ≤ i + 1 → Ev (fun k => spec_NetAdd.l0 k true i n E n out t.f0 t.f1) (n, out ++ E.drop i, true)
  | 0, i, out, h, hl => by
    refine Ev.succ ?_
    simp only [spec_NetAdd.l0]
    refine Ev.neg (by omega) (Ev.pos trivial (Ev.some_ ?_))
    rw [List.drop_of_length_le (by omega)]; simp
  | d + 1, i, out, h, hl => by
    have hi : i < E.length := by omega
    refine Ev.succ ?_
    simp only [spec_NetAdd.l0, rd_T_nat E i hi]
    refine Ev.pos (by omega) (Ev.pos trivial (Ev.pos (by omega) (Ev.pos (by omega) ?_)))
    rw [w64 (by omega), List.drop_eq_getElem_cons hi]
    refine Ev.cast (ev_NetAdd_done (n := n) t hE d (i + 1) (out ++ [E[i]]) (by omega) (by simp only [List.length_append, List.length_singleton]; omega)) ?_
    simp
theorem ev_NetAdd_loop {n : Int} {E : List T} (t : T) (hE : E.length ≤ 1048576) : ∀ (d i : Nat) (out : List T), i + d = E.length → out.length ≤ i → Ev (fun k => spec_NetAdd.l0 k false i n E n out t.f0 t.f1) (n, out ++ insT t (E.drop i), true)
  | 0, i, out, h, hl => by
    refine Ev.succ ?_
    simp only [spec_NetAdd.l0]
    refine Ev.neg (by omega) (Ev.neg (by simp) (Ev.pos (by omega) (Ev.some_ ?_)))
    rw [List.drop_of_length_le (by omega)]; rfl
  | d + 1, i, out, h, hl => by
    have hi : i < E.length := by omega
    refine Ev.succ ?_
    simp only [spec_NetAdd.l0, rd_T_nat E i hi]
    refine Ev.pos (by omega) (Ev.neg (by simp) (Ev.pos (by omega) (Ev.bind0 (l1Less t E[i]) ?_)))
    rw [w64 (by omega), List.drop_eq_getElem_cons hi]
    unfold insT
    by_cases hlt : lt t E[i]
    · rw [if_pos hlt]
      refine Ev.pos (decide_eq_true hlt) (Ev.pos (by omega) (Ev.bind0 rfl (Ev.pos (by simp only [List.length_append, List.length_singleton]; omega) ?_)))
      refine Ev.cast (ev_NetAdd_done (n := n) t hE d (i + 1) (out ++ [t] ++ [E[i]]) (by omega) (by simp only [List.length_append, List.length_singleton]; omega)) ?_
      simp
    · rw [if_neg hlt]
      refine Ev.neg (by simp [hlt]) (Ev.pos (by omega) ?_)
      refine Ev.cast (ev_NetAdd_loop (n := n) t hE d (i + 1) (out ++ [E[i]]) (by omega) (by simp only [List.length_append, List.length_singleton]; omega)) ?_
      simp
/-- A tie may be added. -/
def MayAdd (n : Int) (E : List T) (a b : Int) : Prop := OK n E ∧ In n a ∧ In n b ∧ a ≠ b ∧ ¬ Has E a b
theorem ev_spec_NetAdd {n : Int} {E : List T} {a b : Int} (h : MayAdd n E a b) : Ev (fun k => spec_NetAdd.f k n E a b) (n, insT (tie a b) E, true) := by
  have hl := h.1.length
  simp only [spec_NetAdd.f]
  refine Ev.bind (ev_l1Knot n E a (by omega) h.1.wf) (Ev.pos (dec_t ⟨h.1, h.2.1⟩) (Ev.bind (ev_l1Knot n E b (by omega) h.1.wf) (Ev.pos (dec_t ⟨h.1, h.2.2.1⟩) (Ev.neg h.2.2.2.1 (Ev.bind (ev_spec_NetHas n E a b (by omega) h.1.wf) ?_)))))
  rw [dec_f (fun k => h.2.2.2.2 k.2)]
  refine Ev.succ ?_
  simp only [spec_NetAdd.j0]
  refine Ev.neg (by simp) (Ev.bind0 (l1Tie a b) ?_)
  exact ev_NetAdd_loop (tie a b) (by omega) E.length 0 [] (by omega) (by simp)
theorem ev_spec_NetAdd_not {n : Int} {E : List T} {a b : Int} (hE : E.length ≤ 1048576) (hw : WF E) (h : ¬ MayAdd n E a b) : Ev (fun k => spec_NetAdd.f k n E a b) (0, [], false) := by
  have no : Ev (fun k => spec_NetAdd.j0 k a b true n E) (0, [], false) := by
    refine Ev.succ ?_
    simp only [spec_NetAdd.j0]
    exact Ev.pos trivial (Ev.now _)
  simp only [spec_NetAdd.f]
  refine Ev.bind (ev_l1Knot n E a hE hw) ?_
  by_cases ha : OK n E ∧ In n a
  · refine Ev.pos (dec_t ha) (Ev.bind (ev_l1Knot n E b hE hw) ?_)
    by_cases hb : OK n E ∧ In n b
    · refine Ev.pos (dec_t hb) ?_
      by_cases e : a = b
      · exact Ev.pos e no
      · refine Ev.neg e (Ev.bind (ev_spec_NetHas n E a b hE hw) ?_)
        by_cases hh : Has E a b
        · rw [dec_t ⟨ha.1, hh⟩]; exact no
        · exact absurd ⟨ha.1, ha.2, hb.2, e, hh⟩ h
    · exact Ev.neg (by rw [dec_f hb]; simp) no
  · exact Ev.neg (by rw [dec_f ha]; simp) no
theorem ev_spec_NetAdd_any {n : Int} {E : List T} (h : OK n E) (a b : Int) : ∃ n' E' ok, Ev (fun k => spec_NetAdd.f k n E a b) (n', E', ok) ∧ OK n' E' := by
  have hl := h.length
  by_cases hm : MayAdd n E a b
  · exact ⟨_, _, _, ev_spec_NetAdd hm, h.ins hm.2.1 hm.2.2.1 hm.2.2.2.1 hm.2.2.2.2⟩
  · exact ⟨_, _, _, ev_spec_NetAdd_not (by omega) h.wf hm, OK.nil (by omega) (by omega)⟩

/-! ### nets -/
theorem ev_l71Net_l2 {s : List Int} (h : Bytes s) : ∀ (d : Nat) (i p n : Int) (E : List T), i ≤ d → d ≤ 20 → 0 ≤ p → p + 2 * d ≤ 1000 → OK n E → ∃ n' E' p', Ev (fun k => spec_l71Net.l2 k i s p n E) (n', E', p') ∧ OK n' E' ∧ 0 ≤ p' ∧ p' ≤ p + 2 * d
  | d, i, p, n, E, hi, hd, hp, hq, ho => by
    have stop : ∃ n' E' p', Ev (fun k => spec_l71Net.j4 k i false s p n E) (n', E', p') ∧ OK n' E' ∧ 0 ≤ p' ∧ p' ≤ p + 2 * d := by
      refine ⟨n, E, p, Ev.succ ?_, ho, hp, by omega⟩
      simp only [spec_l71Net.j4]
      exact Ev.neg (by simp) (Ev.now _)
    by_cases h1 : i > 0
    · by_cases h2 : n > 1
      · cases d with
        | zero => omega
        | succ d =>
          have h8 := ho.n8
          obtain ⟨a, ha, _⟩ := ev_pick h (p := p) (by omega) n (by omega)
          obtain ⟨b, hb, _⟩ := ev_pick h (p := p + 1) (by omega) n (by omega)
          obtain ⟨n1, E1, ok, hadd, hok⟩ := ev_spec_NetAdd_any ho a b
          by_cases hk : ok = true
          · obtain ⟨n2, E2, p2, hev, ho2, hp2, hq2⟩ := ev_l71Net_l2 h d (i - 1) (p + 1 + 1) n1 E1 (by omega) (by omega) (by omega) (by omega) hok
            refine ⟨n2, E2, p2, Ev.succ ?_, ho2, hp2, by omega⟩
            simp only [spec_l71Net.l2]
            refine Ev.pos h1 (Ev.succ ?_)
            simp only [spec_l71Net.j4]
            refine Ev.pos (decide_eq_true h2) (Ev.bind ha (Ev.bind hb (Ev.bind hadd (Ev.pos hk ?_))))
            rw [w64 (by omega)]
            exact hev
          · obtain ⟨n2, E2, p2, hev, ho2, hp2, hq2⟩ := ev_l71Net_l2 h d (i - 1) (p + 1 + 1) n E (by omega) (by omega) (by omega) (by omega) ho
            refine ⟨n2, E2, p2, Ev.succ ?_, ho2, hp2, by omega⟩
            simp only [spec_l71Net.l2]
            refine Ev.pos h1 (Ev.succ ?_)
            simp only [spec_l71Net.j4]
            refine Ev.pos (decide_eq_true h2) (Ev.bind ha (Ev.bind hb (Ev.bind hadd (Ev.neg hk ?_))))
            rw [w64 (by omega)]
            exact hev
      · obtain ⟨n2, E2, p2, hev, r⟩ := stop
        refine ⟨n2, E2, p2, Ev.succ ?_, r⟩
        simp only [spec_l71Net.l2]
        refine Ev.pos h1 ?_
        rw [decide_eq_false h2]
        exact hev
    · obtain ⟨n2, E2, p2, hev, r⟩ := stop
      refine ⟨n2, E2, p2, Ev.succ ?_, r⟩
      simp only [spec_l71Net.l2]
      exact Ev.neg h1 hev
theorem ev_l71Net_j2 {s : List Int} (h : Bytes s) (p n : Int) (E : List T) (hp : 0 ≤ p) (hq : p ≤ 900) (ho : OK n E) : ∃ n' E' p', Ev (fun k => spec_l71Net.j2 k s p n E) (n', E', p') ∧ OK n' E' ∧ 0 ≤ p' ∧ p' ≤ p + 30 := by
  obtain ⟨a, ha, ha', _⟩ := ev_pick h (p := p) (by omega) 13 (by omega)
  have := ha' (by omega)
  obtain ⟨n2, E2, p2, hev, ho2, hp2, hq2⟩ := ev_l71Net_l2 h 13 a (p + 1) n E (by omega) (by omega) (by omega) (by omega) ho
  refine ⟨n2, E2, p2, Ev.succ ?_, ho2, hp2, by omega⟩
  simp only [spec_l71Net.j2]
  exact Ev.bind ha hev
theorem ev_l71Net_l0 {s : List Int} (h : Bytes s) : ∀ (d : Nat) (i p n : Int) (E : List T), i + d = 8 → 0 ≤ i → 0 ≤ p → p + d ≤ 900 → OK n E → ∃ n' E' p', Ev (fun k => spec_l71Net.l0 k i s p n E) (n', E', p') ∧ OK n' E' ∧ 0 ≤ p' ∧ p' ≤ p + d + 30
  | d, i, p, n, E, hi, h0, hp, hq, ho => by
    by_cases h1 : i < n
    · cases d with
      | zero => have := ho.n8; omega
      | succ d =>
        obtain ⟨a, ha, _⟩ := ev_pick h (p := p) (by omega) i (by omega)
        obtain ⟨n1, E1, ok, hadd, hok⟩ := ev_spec_NetAdd_any ho i a
        obtain ⟨n2, E2, p2, hev, ho2, hp2, hq2⟩ := ev_l71Net_l0 h d (i + 1) (p + 1) n1 E1 (by omega) (by omega) (by omega) (by omega) hok
        refine ⟨n2, E2, p2, Ev.succ ?_, ho2, hp2, by omega⟩
        simp only [spec_l71Net.l0]
        refine Ev.pos h1 (Ev.bind ha (Ev.bind hadd ?_))
        rw [w64 (by omega)]
        exact hev
    · obtain ⟨n2, E2, p2, hev, ho2, hp2, hq2⟩ := ev_l71Net_j2 h p n E hp (by omega) ho
      refine ⟨n2, E2, p2, Ev.succ ?_, ho2, hp2, by omega⟩
      simp only [spec_l71Net.l0]
      exact Ev.neg h1 hev
theorem ev_l71Net_l1 {s : List Int} (h : Bytes s) (p : Int) (hp : 0 ≤ p) (hq : p ≤ 900) : ∀ (d : Nat) (i n : Int) (E : List T), i + d = 8 → 0 ≤ i → OK n E → ∃ n' E' p', Ev (fun k => spec_l71Net.l1 k i s p n E) (n', E', p') ∧ OK n' E' ∧ 0 ≤ p' ∧ p' ≤ p + 30
  | d, i, n, E, hi, h0, ho => by
    obtain ⟨n2, E2, p2, hev, r⟩ := ev_l71Net_j2 h p n E hp (by omega) ho
    by_cases h1 : i < n
    · by_cases h2 : n > 2
      · cases d with
        | zero => have := ho.n8; omega
        | succ d =>
          obtain ⟨n1, E1, ok, hadd, hok⟩ := ev_spec_NetAdd_any ho i (Int.tmod (i + 1) n)
          obtain ⟨n2, E2, p2, hev, r⟩ := ev_l71Net_l1 h p hp hq d (i + 1) n1 E1 (by omega) (by omega) hok
          refine ⟨n2, E2, p2, Ev.succ ?_, r⟩
          simp only [spec_l71Net.l1]
          rw [w64 (x := i + 1) (by omega)]
          exact Ev.pos h1 (Ev.pos h2 (Ev.neg (by omega) (Ev.bind hadd hev)))
      · refine ⟨n2, E2, p2, Ev.succ ?_, r⟩
        simp only [spec_l71Net.l1]
        exact Ev.pos h1 (Ev.neg h2 hev)
    · refine ⟨n2, E2, p2, Ev.succ ?_, r⟩
      simp only [spec_l71Net.l1]
      exact Ev.neg h1 hev
theorem ev_l71Net {s : List Int} (h : Bytes s) (p : Int) (hp : 0 ≤ p) (hq : p ≤ 800) : ∃ n E p', Ev (fun k => spec_l71Net.f k s p) (n, E, p') ∧ OK n E ∧ 0 ≤ p' ∧ p' ≤ p + 50 := by
  obtain ⟨a, ha, ha', _⟩ := ev_pick h (p := p) (by omega) 8 (by omega)
  have := ha' (by omega)
  obtain ⟨b, hb, hb', _⟩ := ev_pick h (p := p + 1) (by omega) 6 (by omega)
  have hn : OK (1 + a) ([] : List T) := OK.nil (by omega) (by omega)
  simp only [spec_l71Net.f]
  by_cases h0 : b = 0
  · obtain ⟨n2, E2, p2, hev, ho2, hp2, hq2⟩ := ev_l71Net_l0 h 7 1 (p + 1 + 1) (1 + a) [] (by omega) (by omega) (by omega) (by omega) hn
    refine ⟨n2, E2, p2, Ev.bind ha (Ev.bind hb (Ev.pos h0 ?_)), ho2, hp2, by omega⟩
    rw [w64 (by omega)]
    exact hev
  · by_cases h1 : b = 1
    · obtain ⟨n2, E2, p2, hev, ho2, hp2, hq2⟩ := ev_l71Net_l1 h (p + 1 + 1) (by omega) (by omega) 8 0 (1 + a) [] (by omega) (by omega) hn
      refine ⟨n2, E2, p2, Ev.bind ha (Ev.bind hb (Ev.neg h0 (Ev.pos h1 ?_))), ho2, hp2, by omega⟩
      rw [w64 (by omega)]
      exact hev
    · obtain ⟨n2, E2, p2, hev, ho2, hp2, hq2⟩ := ev_l71Net_j2 h (p + 1 + 1) (1 + a) [] (by omega) (by omega) hn
      refine ⟨n2, E2, p2, Ev.bind ha (Ev.bind hb (Ev.neg h0 (Ev.neg h1 ?_))), ho2, hp2, by omega⟩
      rw [w64 (by omega)]
      exact hev

/-- A small net, valid or not. -/
structure Small (n : Int) (E : List T) : Prop where
  n : -1 ≤ n ∧ n ≤ 9
  len : E.length ≤ 70
  tie : ∀ t ∈ E, (-9 ≤ t.f0 ∧ t.f0 ≤ 9) ∧ (-9 ≤ t.f1 ∧ t.f1 ≤ 9)
theorem Small.wf {n : Int} {E : List T} (h : Small n E) : WF E := fun t ht => by have := h.tie t ht; omega
theorem Small.le {n : Int} {E : List T} (h : Small n E) : E.length ≤ 1048576 := by have := h.len; omega
theorem OK.small {n : Int} {E : List T} (h : OK n E) : Small n E := by
  refine ⟨?_, by have := h.length; omega, fun t ht => ?_⟩
  · have := h.n0; have := h.n8; omega
  · have := h.tie t ht; have := h.n8; omega
theorem ev_l71Spoil {s : List Int} (h : Bytes s) (p : Int) (hp : 0 ≤ p) (hq : p ≤ 800) {n : Int} {E : List T} (ho : OK n E) : ∃ n' E' p', Ev (fun k => spec_l71Spoil.f k s p n E) (n', E', p') ∧ Small n' E' ∧ 0 ≤ p' ∧ p' ≤ p + 3 := by
  have hl := ho.length
  have h8 := ho.n8
  have h0 := ho.n0
  have sm := ho.small
  have add : ∀ t : T, ((-9 ≤ t.f0 ∧ t.f0 ≤ 9) ∧ (-9 ≤ t.f1 ∧ t.f1 ≤ 9)) → Small n (E ++ [t]) := fun t ht => ⟨sm.n, by simp only [List.length_append, List.length_singleton]; omega, fun u hu => by
    rcases List.mem_append.1 hu with m | m
    · exact sm.tie u m
    · rw [List.mem_singleton] at m; subst m; exact ht⟩
  obtain ⟨a, ha, ha', _⟩ := ev_pick h (p := p) (by omega) 6 (by omega)
  have := ha' (by omega)
  simp only [spec_l71Spoil.f]
  by_cases e0 : a = 0
  · obtain ⟨b, hb, hb', _⟩ := ev_pick h (p := p + 1) (by omega) 5 (by omega)
    have := hb' (by omega)
    have hv : -1 ≤ rd [(-1 : Int), 0, 1, 8, 9] b ∧ rd [(-1 : Int), 0, 1, 8, 9] b ≤ 9 := by
      obtain rfl | rfl | rfl | rfl | rfl : b = 0 ∨ b = 1 ∨ b = 2 ∨ b = 3 ∨ b = 4 := by omega
      all_goals decide
    refine ⟨_, _, _, Ev.bind0 (l1Copy n E (by omega)) (Ev.bind ha (Ev.pos e0 (Ev.bind0 rfl (Ev.bind hb (Ev.pos (by omega) (Ev.pos (by simp; omega) (Ev.now _))))))), ⟨hv, sm.len, sm.tie⟩, by omega, by omega⟩
  · by_cases e1 : a = 1
    · obtain ⟨b, hb, hb', _⟩ := ev_pick h (p := p + 1) (by omega) 3 (by omega)
      obtain ⟨c, hc, hc', _⟩ := ev_pick h (p := p + 1 + 1) (by omega) 3 (by omega)
      have := hb' (by omega)
      have := hc' (by omega)
      exact ⟨_, _, _, Ev.bind0 (l1Copy n E (by omega)) (Ev.bind ha (Ev.neg e0 (Ev.pos e1 (Ev.bind hb (Ev.bind hc (Ev.pos (by dsimp only; omega) (Ev.now _))))))), add ⟨b, c⟩ (by dsimp only; omega), by omega, by omega⟩
    · by_cases e2 : a = 2
      · refine ⟨_, _, _, Ev.bind0 (l1Copy n E (by omega)) (Ev.bind ha (Ev.neg e0 (Ev.neg e1 (Ev.pos e2 (Ev.pos (by dsimp only; omega) (Ev.now _)))))), add ⟨wrap64 (n - 1), n⟩ ?_, by omega, by omega⟩
        rw [w64 (by omega)]
        dsimp only; omega
      · by_cases e3 : a = 3
        · by_cases hE : (E.length : Int) > 0
          · obtain ⟨b, hb, hb', _⟩ := ev_pick h (p := p + 1) (by omega) (E.length : Int) (by omega)
            have hbb := hb' (by omega)
            refine ⟨_, _, _, Ev.bind0 (l1Copy n E (by omega)) (Ev.bind ha (Ev.neg e0 (Ev.neg e1 (Ev.neg e2 (Ev.pos e3 (Ev.pos hE (Ev.bind hb (Ev.pos hbb.1 (Ev.pos hbb.2 (Ev.now _)))))))))), ⟨sm.n, by rw [List.length_set]; exact sm.len, fun u hu => ?_⟩, by omega, by omega⟩
            rcases List.mem_or_eq_of_mem_set hu with m | rfl
            · exact sm.tie u m
            · have hbn : b.toNat < E.length := by omega
              have e : (rd_T73 E b) = E[b.toNat] := by
                have := rd_T_nat E b.toNat hbn
                rw [show ((b.toNat : Nat) : Int) = b by omega] at this
                exact this
              have := sm.tie _ (List.getElem_mem hbn)
              dsimp only
              rw [e]
              omega
          · exact ⟨_, _, _, Ev.bind0 (l1Copy n E (by omega)) (Ev.bind ha (Ev.neg e0 (Ev.neg e1 (Ev.neg e2 (Ev.pos e3 (Ev.neg hE (Ev.now _))))))), sm, by omega, by omega⟩
        · by_cases e4 : a = 4
          · by_cases hE : (E.length : Int) > 1
            · refine ⟨_, _, _, Ev.bind0 (l1Copy n E (by omega)) (Ev.bind ha (Ev.neg e0 (Ev.neg e1 (Ev.neg e2 (Ev.neg e3 (Ev.pos e4 (Ev.pos hE (Ev.pos (by dsimp only; omega) (Ev.pos (by dsimp only; omega) (Ev.now _)))))))))), add _ ?_, by omega, by omega⟩
              have e : rd_T73 E 0 = E[0] := rd_T_nat E 0 (by omega)
              rw [e]
              have := sm.tie _ (List.getElem_mem (show 0 < E.length by omega))
              dsimp only; omega
            · exact ⟨_, _, _, Ev.bind0 (l1Copy n E (by omega)) (Ev.bind ha (Ev.neg e0 (Ev.neg e1 (Ev.neg e2 (Ev.neg e3 (Ev.pos e4 (Ev.neg hE (Ev.now _)))))))), sm, by omega, by omega⟩
          · refine ⟨_, _, _, Ev.bind0 (l1Copy n E (by omega)) (Ev.bind ha (Ev.neg e0 (Ev.neg e1 (Ev.neg e2 (Ev.neg e3 (Ev.neg e4 (Ev.bind0 rfl (Ev.pos (by simp only [List.length_singleton]; omega) (Ev.now _))))))))), ⟨sm.n, by simp only [List.singleton_append, List.length_cons]; omega, fun u hu => ?_⟩, by omega, by omega⟩
            rcases List.mem_append.1 hu with m | m
            · rw [List.mem_singleton] at m; subst m; dsimp only; omega
            · exact sm.tie u m
theorem ev_l71Any {s : List Int} (h : Bytes s) (p : Int) (hp : 0 ≤ p) (hq : p ≤ 700) : ∃ n E p', Ev (fun k => spec_l71Any.f k s p) (n, E, p') ∧ Small n E ∧ 0 ≤ p' ∧ p' ≤ p + 60 := by
  obtain ⟨n, E, p1, hev, ho, hp1, hq1⟩ := ev_l71Net h p hp (by omega)
  obtain ⟨a, ha, _⟩ := ev_pick h (p := p1) (by omega) 12 (by omega)
  simp only [spec_l71Any.f]
  by_cases e : a = 0
  · obtain ⟨n2, E2, p2, h2, hs, hp2, hq2⟩ := ev_l71Spoil h (p1 + 1) (by omega) (by omega) ho
    exact ⟨_, _, _, Ev.bind hev (Ev.bind ha (Ev.pos e (Ev.bind h2 (Ev.now _)))), hs, hp2, by dsimp only; omega⟩
  · exact ⟨_, _, _, Ev.bind hev (Ev.bind ha (Ev.neg e (Ev.now _))), ho.small, by omega, by omega⟩
end Go.Proofs.Ytdlnnjgjfngccaa.Th
