/-
P38: a knot cuts just if two others are parted without it.
-/
import Derived.Test.YtdlnnjgjfngccaaThBlockCuts
import Derived.Test.YtdlnnjgjfngccaaThCls
import Derived.Test.YtdlnnjgjfngccaaThReachI
import Derived.Test.YtdlnnjgjfngccaaThLo
import Derived.Test.YtdlnnjgjfngccaaThDraw1
import Derived.Test.YtdlnnjgjfngccaaF73
namespace Go.Proofs.Ytdlnnjgjfngccaa.Pure
open Go.RowKit Go.Proofs.YtdlnnjgjfngccaaW.PrintWords Go.Proofs.YtdlnnjgjfngccaaW.PrintLast Go.Proofs.YtdlnnjgjfngccaaW.PrintMore Go.Proofs.Ytdlnnjgjfngccaa.F Go.Proofs.Ytdlnnjgjfngccaa.Th

theorem ev_loIn_loop (l : List Int) (x : Int) (hl : l.length ≤ 1048576) : Ev (fun k => laws_loIn.f k l x) (dec (x ∈ l)) := by
  simp only [laws_loIn.f]
  have := any_loop (L := fun k i => laws_loIn.l0 k l x i) l.length (fun j => rd l (j : Int) = x) ?_ ?_ ?_ l.length 0 (by omega)
  · exact Ev.cast this (dec_congr (mem_iff_rd l x).symm)
  · refine Ev.succ ?_
    simp only [laws_loIn.l0]
    exact Ev.neg (by omega) (Ev.now _)
  · intro i hi hp b hb
    refine Ev.succ ?_
    simp only [laws_loIn.l0]
    refine Ev.pos (by omega) (Ev.pos (by omega) (Ev.neg hp ?_))
    rw [w64 (by omega)]
    exact hb
  · intro i hi hp
    refine Ev.succ ?_
    simp only [laws_loIn.l0]
    exact Ev.pos (by omega) (Ev.pos (by omega) (Ev.pos hp (Ev.now _)))
theorem ev_impl_NetWithout {n : Int} {E : List T} {v : Int} (h : OK n E) (hv : In n v) : Ev (fun k => impl_NetWithout.f k n E v) (n, lessK E v) := by
  have := h.length
  simp only [impl_NetWithout.f]
  exact Ev.bind (ev_impl_NetOk n E (by omega)) (Ev.pos (dec_t h) (Ev.bind0 (knot_eq n E v) (Ev.pos (dec_t hv) (Ev.bind (ev_without h) (Ev.now _)))))
/-- Two others are parted without the knot. -/
def Parts (E : List T) (v a b : Int) : Prop := a ≠ v ∧ b ≠ v ∧ Conn E a b ∧ ¬ Conn (lessK E v) a b
theorem cut_iff {n : Int} {E : List T} {v : Int} (h : OK n E) (hv : In n v) : v ∈ blockCuts n E ↔ ∃ a, (0 ≤ a ∧ a < n) ∧ ∃ b, (0 ≤ b ∧ b < a) ∧ Parts E v a b := by
  have hm : v ∈ blockCuts n E ↔ CutK n E v := by
    unfold blockCuts cutsL
    rw [if_pos h, List.mem_filter, mem_ks, dec_iff]
    exact ⟨fun k => k.2, fun k => ⟨hv, k⟩⟩
  rw [hm]
  constructor
  · rintro ⟨ht, hc⟩
    obtain ⟨_, h2⟩ := countN_lessK h hv ht
    have : ¬ ∀ a b, In n a → In n b → a ≠ v → b ≠ v → Conn E a b → Conn (lessK E v) a b := fun k => by have := h2.2 k; omega
    refine Classical.byContradiction (fun hn => this (fun a b ha hb hav hbv hab => Classical.byContradiction (fun hnc => hn ?_)))
    by_cases e : b < a
    · exact ⟨a, ha, b, ⟨hb.1, e⟩, hav, hbv, hab, hnc⟩
    · have : a ≠ b := fun e => hnc (e ▸ .refl _)
      exact ⟨b, hb, a, ⟨ha.1, by omega⟩, hbv, hav, hab.symm, fun k => hnc k.symm⟩
  · rintro ⟨a, ha, b, hb, hav, hbv, hab, hnc⟩
    have ht : ∃ c, Has E v c := Classical.byContradiction (fun hn => hnc (by
      have : lessK E v = E := less_none (fun t ht hk => hn (by
        have := has_of_mem h ht
        rcases hk with e | e
        · exact ⟨t.f1, by rw [← e]; exact this⟩
        · exact ⟨t.f0, by rw [← e]; exact this.symm⟩))
      rw [this]; exact hab))
    obtain ⟨h1, h2⟩ := countN_lessK h hv ht
    refine ⟨ht, ?_⟩
    have : countN n E ≠ countN n (lessK E v) - 1 := fun e => hnc (h2.1 e a b ha ⟨hb.1, by omega⟩ hav hbv hab)
    omega
theorem ev_l2 {n : Int} {E : List T} {v a : Int} {cuts : List Int} (h : OK n E) (ha : In n a) (r : Bool) : ∀ (d : Nat) (b : Int) (fl : Bool), 0 ≤ b → b + d = a → Ev (fun k => laws_FnBlockCuts.l1 k cuts v (fl || dec (∃ b', (b ≤ b' ∧ b' < a) ∧ Parts E v a b')) (a + 1) n E n (lessK E v)) r →
    Ev (fun k => laws_FnBlockCuts.l2 k cuts v fl a b n E n (lessK E v)) r
  | 0, b, fl, h0, hd, hk => by
    have h8 := h.n8
    have ha1 := ha.2
    refine Ev.succ ?_
    simp only [laws_FnBlockCuts.l2]
    refine Ev.neg (by omega) ?_
    rw [w64 (by omega)]
    rw [dec_f (by rintro ⟨b', hb, _⟩; omega), Bool.or_false] at hk
    exact hk
  | d + 1, b, fl, h0, hd, hk => by
    have h8 := h.n8
    have ha0 := ha.1
    have ha1 := ha.2
    have hb : In n b := ⟨h0, by omega⟩
    have skip : ¬ Parts E v a b → Ev (fun k => laws_FnBlockCuts.l2 k cuts v fl a (b + 1) n E n (lessK E v)) r := fun hn => by
      refine ev_l2 h ha r d (b + 1) fl (by omega) (by omega) ?_
      rw [dec_congr (q := ∃ b', (b ≤ b' ∧ b' < a) ∧ Parts E v a b')]
      · exact hk
      · constructor
        · rintro ⟨b', hb', q⟩; exact ⟨b', by omega, q⟩
        · rintro ⟨b', hb', q⟩
          by_cases e : b' = b
          · subst e; exact absurd q hn
          · exact ⟨b', by omega, q⟩
    refine Ev.succ ?_
    simp only [laws_FnBlockCuts.l2]
    rw [w64 (by omega)]
    refine Ev.pos (by omega) ?_
    by_cases e1 : a = v
    · exact Ev.pos e1 (skip (fun k => k.1 e1))
    · refine Ev.neg e1 ?_
      by_cases e2 : b = v
      · exact Ev.pos e2 (skip (fun k => k.2.1 e2))
      · refine Ev.neg e2 (Ev.bind (ev_impl_WayReach h ha) (Ev.pos h0 (Ev.pos (by rw [reachL_length]; omega) ?_)))
        rw [rd_reachL _ _ hb]
        by_cases c1 : Conn E a b
        · refine Ev.pos (dec_t c1) (Ev.bind (ev_impl_WayReach (h.less _) ha) (Ev.pos (by rw [reachL_length]; omega) ?_))
          rw [rd_reachL _ _ hb]
          by_cases c2 : Conn (lessK E v) a b
          · exact Ev.pos (dec_t c2) (skip (fun k => k.2.2.2 c2))
          · refine Ev.neg (by rw [dec_f c2]; simp) ?_
            refine ev_l2 h ha r d (b + 1) true (by omega) (by omega) ?_
            rw [dec_t (p := ∃ b', (b ≤ b' ∧ b' < a) ∧ Parts E v a b') ⟨b, by omega, e1, e2, c1, c2⟩, Bool.or_true] at hk
            rw [Bool.true_or]
            exact hk
        · exact Ev.neg (by rw [dec_f c1]; simp) (skip (fun k => c1 k.2.2.1))
theorem ev_l1 {n : Int} {E : List T} {v : Int} {cuts : List Int} (h : OK n E) (r : Bool) : ∀ (d : Nat) (a : Int) (fl : Bool), 0 ≤ a → a + d = n → Ev (fun k => laws_FnBlockCuts.l1 k cuts v (fl || dec (∃ a', (a ≤ a' ∧ a' < n) ∧ ∃ b', (0 ≤ b' ∧ b' < a') ∧ Parts E v a' b')) n n E n (lessK E v)) r →
    Ev (fun k => laws_FnBlockCuts.l1 k cuts v fl a n E n (lessK E v)) r
  | 0, a, fl, h0, hd, hk => by
    obtain rfl : a = n := by omega
    rw [dec_f (by rintro ⟨a', ha, _⟩; omega), Bool.or_false] at hk
    exact hk
  | d + 1, a, fl, h0, hd, hk => by
    refine Ev.succ ?_
    simp only [laws_FnBlockCuts.l1]
    refine Ev.pos (by omega) (ev_l2 h ⟨h0, by omega⟩ r a.toNat 0 fl (by omega) (by omega) ?_)
    refine ev_l1 h r d (a + 1) _ (by omega) (by omega) ?_
    rw [Bool.or_assoc]
    have e : (dec (∃ b', (0 ≤ b' ∧ b' < a) ∧ Parts E v a b') || dec (∃ a', (a + 1 ≤ a' ∧ a' < n) ∧ ∃ b', (0 ≤ b' ∧ b' < a') ∧ Parts E v a' b')) = dec (∃ a', (a ≤ a' ∧ a' < n) ∧ ∃ b', (0 ≤ b' ∧ b' < a') ∧ Parts E v a' b') := by
      refine dec_of ?_
      rw [Bool.or_eq_true, dec_iff, dec_iff]
      constructor
      · rintro (⟨b, hb, q⟩ | ⟨a', ha, q⟩)
        · exact ⟨a, by omega, b, hb, q⟩
        · exact ⟨a', by omega, q⟩
      · rintro ⟨a', ha, q⟩
        by_cases e : a' = a
        · subst e; exact Or.inl q
        · exact Or.inr ⟨a', by omega, q⟩
    rw [e]
    exact hk
theorem ev_l0 {n : Int} {E : List T} (h : OK n E) : ∀ (d : Nat) (v : Int), 0 ≤ v → v + d = n → Ev (fun k => laws_FnBlockCuts.l0 k (blockCuts n E) v n E) true
  | 0, v, h0, hd => by
    refine Ev.succ ?_
    simp only [laws_FnBlockCuts.l0]
    exact Ev.neg (by omega) (Ev.now _)
  | d + 1, v, h0, hd => by
    have h8 := h.n8
    have hv : In n v := ⟨h0, by omega⟩
    refine Ev.succ ?_
    simp only [laws_FnBlockCuts.l0]
    refine Ev.pos (by omega) (Ev.bind (ev_impl_NetWithout h hv) (ev_l1 h true n.toNat 0 false (by omega) (by omega) ?_))
    refine Ev.succ ?_
    simp only [laws_FnBlockCuts.l1]
    have := blockCuts_length n E
    refine Ev.neg (by omega) (Ev.bind (ev_loIn_loop _ _ (by omega)) (Ev.neg ?_ ?_))
    · rw [Bool.false_or, dec_congr (cut_iff h hv)]
      simp
    · rw [w64 (by omega)]
      exact ev_l0 h d (v + 1) (by omega) (by omega)
theorem FnBlockCuts : laws_FnBlockCuts.Pure := by
  intro l hl
  refine Ev.rounds (g := fun k => laws_FnBlockCuts.f k l) ?_
  simp only [laws_FnBlockCuts.f]
  by_cases h1 : (l.length : Int) > 1048576
  · exact Ev.pos h1 (Ev.now _)
  · obtain ⟨s, ho, hs⟩ := l6Open l hl
    obtain ⟨n, E, p, hd, hn, _⟩ := ev_l71Any hs 0 (by omega) (by omega)
    have hb := blockCuts_length n E
    refine Ev.neg h1 (Ev.bind (a := (n, E)) ?_ ?_)
    · simp only [spec_DrawBlockCuts.f]
      exact Ev.bind0 ho (Ev.bind hd (Ev.now _))
    · refine Ev.bind (ev_impl_BlockCuts n E hn.le) (Ev.bind (ev_spec_BlockCuts n E hn.le hn.wf) (Ev.bind (ev_loInts _ (by omega)) (Ev.pos rfl (Ev.bind (ev_spec_NetOk n E hn.le hn.wf) ?_))))
      by_cases h : OK n E
      · rw [dec_t h]
        refine Ev.succ ?_
        simp only [laws_FnBlockCuts.j0]
        exact Ev.neg (by simp) (ev_l0 h n.toNat 0 (by omega) (by have := h.n0; omega))
      · rw [dec_f h]
        refine Ev.succ ?_
        simp only [laws_FnBlockCuts.j0]
        exact Ev.pos (by simp) (Ev.bind (ev_spec_BlockCuts n E hn.le hn.wf) (Ev.bind (ev_loInts _ (by omega)) (Ev.now _)))
end Go.Proofs.Ytdlnnjgjfngccaa.Pure
