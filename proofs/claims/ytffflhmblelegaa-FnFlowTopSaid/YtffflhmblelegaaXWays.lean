/-
impl.Net.ways: all ways that go on from one, written behind those that came in. What came in is one row of rows of numbers that is the caller's own (base world w); the way itself lies in blocks of another type (KT).
-/
import Derived.Lib.BufferMore
import Derived.Test.YtffflhmblelegaaF0
import Derived.Test.YtffflhmblelegaaF18
namespace Go.Proofs.Ytffflhmblelegaa.F
open Go.RowKit Go.Proofs.YtffflhmblelegaaW.PrintWords Go.Proofs.YtffflhmblelegaaW.PrintLast Go.Proofs.YtffflhmblelegaaW.PrintMore
attribute [local go_sem] max2_int min2_int max_two min_two max_three min_three max_four min_four
set_option linter.unusedVariables false
set_option linter.unusedSimpArgs false
/-- All blocks but those of rows of rows of numbers lie as they did. -/
def KT (w W : World) : Prop := w.heap.size ≤ W.heap.size ∧ ∀ k, k < w.heap.size → (∀ cells, w.heap[k]? ≠ some (.cells cells 30 (0, 0))) → W.heap[k]? = w.heap[k]?
theorem KT.refl (w : World) : KT w w := ⟨Nat.le_refl _, fun _ _ _ => rfl⟩
theorem KT.of_below {w W W1 : World} (h : KT w W) (hb : Below W.heap.size W W1) : KT w W1 := ⟨Nat.le_trans h.1 hb.size, fun k hk hn => (hb.block k (Nat.lt_of_lt_of_le hk h.1)).trans (h.2 k hk hn)⟩
instance ktA {w W : World} [h : Aside0 (KT w W)] (o : Obj) : Aside0 (KT w (W.alloc o)) := ⟨KT.of_below h.out (below_alloc (Below.refl _ _) o)⟩
instance ktN {w W : World} [h : Aside0 (KT w W)] (n : Nat) : Aside0 (KT w (W.drewN n)) := ⟨h.out⟩
instance ktD {w W : World} [h : Aside0 (KT w W)] : Aside0 (KT w W.drew) := ⟨h.out⟩
theorem knt {w W0 W : World} (_B : Aside0 (KT w W0)) [h : Aside0 (KT w W)] : KT w W := h.out
theorem ks {w W0 W W1 : World} (_B : Aside0 (KT w W0)) (hb : Below W.heap.size W W1) [h : Aside0 (KT w W)] : Aside0 (KT w W1) := ⟨KT.of_below h.out hb⟩
theorem kdr {w W : World} (h : Aside0 (KT w W)) : Aside0 (KT w W.drew) := ⟨h.out⟩
theorem kg {w W0 W W1 : World} {o : Option Nat} (_B : Aside0 (KT w W0)) (hg : W.grownBy W1 o) (ho : ∀ k, o = some k → ∃ cells, W.heap[k]? = some (.cells cells 30 (0, 0))) [h : Aside0 (KT w W)] : Aside0 (KT w W1) := by
  refine ⟨Nat.le_trans h.out.1 hg.size, fun k hk hn => ?_⟩
  refine (hg.block k (Nat.lt_of_lt_of_le hk h.out.1) ?_).trans (h.out.2 k hk hn)
  intro e
  obtain ⟨cells, hc⟩ := ho k e.symm
  exact hn cells (by rw [← h.out.2 k hk hn]; exact hc)
theorem kf {w W0 W W1 : World} {o : Option Nat} (_B : Aside0 (KT w W0)) (hg : W.grownBy W1 o) (ho : ∀ k, o = some k → w.heap.size ≤ k) [h : Aside0 (KT w W)] : Aside0 (KT w W1) := by
  refine ⟨Nat.le_trans h.out.1 hg.size, fun k hk hn => ?_⟩
  refine (hg.block k (Nat.lt_of_lt_of_le hk h.out.1) ?_).trans (h.out.2 k hk hn)
  intro e
  have := ho k e.symm
  omega
theorem kt {w W0 W W1 : World} (_B : Aside0 (KT w W0)) (h1 : KT W W1) [h : Aside0 (KT w W)] : Aside0 (KT w W1) := by
  refine ⟨Nat.le_trans h.out.1 h1.1, fun k hk hn => ?_⟩
  refine (h1.2 k (Nat.lt_of_lt_of_le hk h.out.1) (fun cells hc => hn cells ?_)).trans (h.out.2 k hk hn)
  rw [← h.out.2 k hk hn]; exact hc
theorem kbk {W0 W W1 : World} {g : Nat} {o' : Obj} {cs : Array Value} (_B : Bk W0 g o') (hk : KT W W1) [h : Bk W g (.cells cs 25 (0, 0))] : Bk W1 g (.cells cs 25 (0, 0)) :=
  ⟨(hk.2 g (blk_lt h.out) (fun cells hc => by rw [h.out] at hc; injection hc with hc; injection hc with _ hc _; exact absurd hc (by decide))).trans h.out⟩
theorem own_or {v v1 : Value} {n : Nat} (h : ∃ k, v.ownBlock = some k) (ha : v1.ownBlock = v.ownBlock ∨ ∃ b, v1.ownBlock = some b ∧ n ≤ b) : ∃ k, v1.ownBlock = some k := by
  rcases ha with e | ⟨b, e, _⟩
  · rw [e]; exact h
  · exact ⟨b, e⟩
theorem krow {W W1 : World} {base n c : Nat} {ok : Nat → Prop} {A : Option Addr} {xs : List Int} (h : Kd.R (Kd.int .i64) 3 W base ok (.slice A n c) xs) (hk : KT W W1) : Kd.C (Kd.int .i64) W1 A xs.length xs := by
  have h1 := Kd.R_step (w1 := W1) (Kd.R_tight rfl h) (fun k hk1 hk2 => by
    obtain ⟨cells, hc⟩ := Kd.R_typed h k hk1.symm
    exact hk.2 k hk2 (fun cells' hc' => by rw [hc] at hc'; injection hc' with hc'; injection hc' with _ hc' _; exact absurd hc' (by decide)))
  exact (Kd.R_reads' h1).2.2
/-! ### impl_Net_ways -/
end Go.Proofs.Ytffflhmblelegaa.F
