/-
The program's tieOrder, and what it does to the world: it draws and lays blocks, no more (slices.SortFunc asks for just that).
-/
import Derived.Test.YtffflhmblelegaaF4
import Derived.Sort.Grow
namespace Go.Proofs.Ytffflhmblelegaa.F
open Go.RowKit Go.Proofs.YtffflhmblelegaaW.PrintWords Go.Proofs.YtffflhmblelegaaW.PrintLast Go.Proofs.YtffflhmblelegaaW.PrintMore
attribute [local go_sem] max2_int min2_int max_two min_two max_three min_three max_four min_four
set_option linter.unusedVariables false
set_option linter.unusedSimpArgs false
/-- Draws and new blocks, no more. -/
class Gr (w w' : World) : Prop where out : ∃ q os, w' = Go.Sort.grow (w.drewN q) os
theorem Gr.trans {a b c : World} (h : Gr a b) (k : Gr b c) : Gr a c := by
  obtain ⟨⟨q, os, rfl⟩⟩ := h
  obtain ⟨⟨q', os', rfl⟩⟩ := k
  refine ⟨⟨q + q', os ++ os', ?_⟩⟩
  simp [Go.Sort.grow, World.drewN, Nat.add_assoc, Array.append_assoc]
instance Gr.refl (w : World) : Gr w w := ⟨⟨0, #[], by simp [World.drewN]⟩⟩
theorem Gr.one (w : World) (o : Obj) : Gr w (w.alloc o) := ⟨⟨0, #[o], by rw [Go.Sort.alloc_eq_grow]; rfl⟩⟩
instance Gr.drewN {w W : World} [h : Gr w W] (n : Nat) : Gr w (W.drewN n) := h.trans ⟨⟨n, #[], by simp⟩⟩
instance Gr.drew {w W : World} [h : Gr w W] : Gr w W.drew := h.trans ⟨⟨1, #[], by simp; rfl⟩⟩
section
variable {P : Program} {ops : Array Oper} {Q : Exit → Act → World → Prop} {rest : List Oper} {o : Oper} {a : Act}
theorem R_litg_step {Kc : Act → World → Prop} {α : Type} (d : Kd α) {w0 W : World} (base e : Nat) (hw : Region.wanted o (yielded ops a.tmps) = true) {N : Tmp} (hd : o.dst = some N) {xs : List α} {inner : List Value} {ok okp : Nat → Prop}
    (hrun : (execOp a.eval o).run P W = .ok (.value (.slice (some ⟨W.heap.size, 0, none⟩) xs.length xs.length)) (W.alloc (.cells inner.toArray e)))
    (hrep : Reps (d.M W base okp) d.sz xs inner) (hok : ∀ k, okp k → ok k) (hfresh : ok W.heap.size) (HB : Below base w0 W) (hbase : base ≤ W.heap.size) (hm : xs.length ≤ 9223372036854775807)
    (h : ∀ v1 w1, d.R e w1 base ok v1 xs → Below base w0 w1 → W.grownBy w1 none → (∃ b, v1.ownBlock = some b ∧ W.heap.size ≤ b) → Gr W w1 → Kc (a.put o.dst v1) w1) : if Region.wanted o (yielded ops a.tmps) = true then Oper.wp P o a W Kc Q else Kc (a.put o.dst undef) W := by
  have h1 := Kd.R_lit_step d (Q := Q) (Kc := fun a' w1 => w1 = W.alloc (.cells inner.toArray e) → Kc a' w1) base e hw hd hrun hrep hok hfresh HB hbase hm (fun v1 w1 h1 h2 h3 h4 e1 => h v1 w1 h1 h2 h3 h4 (by rw [e1]; exact Gr.one W _))
  rw [if_pos hw] at h1 ⊢
  unfold Oper.wp at h1 ⊢
  rw [hrun] at h1 ⊢
  exact h1 rfl
end
end Go.Proofs.Ytffflhmblelegaa.F
