/-
The program's tieOrder, and what it does to the world: it draws and lays blocks, no more (slices.SortFunc asks for just that).
-/
import Derived.Test.YtffflhmblelegaaF4
import Derived.Sort.Grow
namespace Go.Proofs.Ytffflhmblelegaa.F
open Go.RowKit Go.Proofs.YtffflhmblelegaaW.PrintWords Go.Proofs.YtffflhmblelegaaW.PrintLast Go.Proofs.YtffflhmblelegaaW.PrintMore
attribute [local go_sem] max2_int min2_int max_two min_two max_three min_three max_four min_four
set_option linter.unusedVariables false
set_option linter.unusedSimpArgs false
/-- Draws and new blocks, no more. -/
class Gr (w w' : World) : Prop where out : ∃ q os, w' = Go.Sort.grow (w.drewN q) os
theorem Gr.trans {a b c : World} (h : Gr a b) (k : Gr b c) : Gr a c := by
  obtain ⟨⟨q, os, rfl⟩⟩ := h
  obtain ⟨⟨q', os', rfl⟩⟩ := k
  refine ⟨⟨q + q', os ++ os', ?_⟩⟩
  simp [Go.Sort.grow, World.drewN, Nat.add_assoc, Array.append_assoc]
instance Gr.refl (w : World) : Gr w w := ⟨⟨0, #[], by simp [World.drewN]⟩⟩
theorem Gr.one (w : World) (o : Obj) : Gr w (w.alloc o) := ⟨⟨0, #[o], by rw [Go.Sort.alloc_eq_grow]; rfl⟩⟩
instance Gr.drewN {w W : World} [h : Gr w W] (n : Nat) : Gr w (W.drewN n) := h.trans ⟨⟨n, #[], by simp⟩⟩
instance Gr.drew {w W : World} [h : Gr w W] : Gr w W.drew := h.trans ⟨⟨1, #[], by simp; rfl⟩⟩
section
variable {P : Program} {ops : Array Oper} {Q : Exit → Act → World → Prop} {rest : List Oper} {o : Oper} {a : Act}
theorem bxg_ {W w W0 : World} (N : Tmp) (cs : Array Value) (t : TypeId) (_B : Aside0 (Below w.heap.size w W0)) [hB : Aside0 (Below w.heap.size w W)] [hG : Gr w W]
    (h : ∀ g, g = W.heap.size → ∀ w1, Below W.heap.size W w1 → Bk w1 g (.cells cs t (0, 0)) → Aside0 (w.heap.size ≤ g) → Aside0 (Below w.heap.size w w1) → Gr w w1 → wpList P ops Q rest (a.put o.dst (.pointer (some ⟨g, 0, none⟩))) w1)
    (hd : o.dst = some N := by rfl) (hg : o.guard = none := by rfl) (hr : (execOp a.eval o).run P W = .ok (.value (.pointer (some ⟨W.heap.size, 0, none⟩))) (W.alloc (.cells cs t (0, 0))) := by first | (go_simp; done) | (go_simp; rfl)) : wpList P ops Q (o :: rest) a W :=
  Kd.event_run hg hr (h _ rfl _ (below_alloc (Below.refl _ _) _) ⟨blk_new W _⟩ ⟨below_size hB.out⟩ ⟨below_step hB.out (below_alloc (Below.refl _ _) _)⟩ (hG.trans (Gr.one W _)))
theorem R_litg_step {Kc : Act → World → Prop} {α : Type} (d : Kd α) {w0 W : World} (base e : Nat) (hw : Region.wanted o (yielded ops a.tmps) = true) {N : Tmp} (hd : o.dst = some N) {xs : List α} {inner : List Value} {ok okp : Nat → Prop}
    (hrun : (execOp a.eval o).run P W = .ok (.value (.slice (some ⟨W.heap.size, 0, none⟩) xs.length xs.length)) (W.alloc (.cells inner.toArray e)))
    (hrep : Reps (d.M W base okp) d.sz xs inner) (hok : ∀ k, okp k → ok k) (hfresh : ok W.heap.size) (HB : Below base w0 W) (hbase : base ≤ W.heap.size) (hm : xs.length ≤ 9223372036854775807)
    (h : ∀ v1 w1, d.R e w1 base ok v1 xs → Below base w0 w1 → W.grownBy w1 none → (∃ b, v1.ownBlock = some b ∧ W.heap.size ≤ b) → Gr W w1 → Kc (a.put o.dst v1) w1) : if Region.wanted o (yielded ops a.tmps) = true then Oper.wp P o a W Kc Q else Kc (a.put o.dst undef) W := by
  have h1 := Kd.R_lit_step d (Q := Q) (Kc := fun a' w1 => w1 = W.alloc (.cells inner.toArray e) → Kc a' w1) base e hw hd hrun hrep hok hfresh HB hbase hm (fun v1 w1 h1 h2 h3 h4 e1 => h v1 w1 h1 h2 h3 h4 (by rw [e1]; exact Gr.one W _))
  rw [if_pos hw] at h1 ⊢
  unfold Oper.wp at h1 ⊢
  rw [hrun] at h1 ⊢
  exact h1 rfl
end
set_option maxHeartbeats 8000000 in
set_option maxRecDepth 100000 in
theorem tieOrder_gr (k : Nat) (j l m n r : Int) (w : World) (h : impl_tieOrder.f k j l m n = some r) :
  Calls Try.prog 83 #[.agg #[.int .i64 j, .int .i64 l], .agg #[.int .i64 m, .int .i64 n]] w fun e w' => e = .returned (.int .i64 r) ∧ Gr w w' := by
 have X := Try.underlying52; have HB := am (Below.refl w.heap.size w)
 have H := h; clear h; unfold impl_tieOrder.f at H
 obtain ⟨g, E, H⟩ := bi_ H; obtain ⟨i, G, H⟩ := bi_ H; obtain ⟨s, t⟩ : ∃ y_ : List Int, y_ = (([g, i] : List Int)) := ⟨_, rfl⟩; replace H : ((cmp_Or_int.f k s).bind fun o => (some o)) = some r := nh_ t H; have x := am t; clear t; obtain ⟨o, I, H⟩ := bi_ H; obtain rfl := Option.some.inj H; go_enter Try.func83, Try.ntmps83
 try go_wp2_with (first | ((with_reducible refine gate_dst (N := 2) rfl ?_); refine bxg_ 2 #[.int .i64 j, .int .i64 l] 52 HB ?_; clear HB; intro Y hg w6 hb a Z HB GR; clear hb hg) | ((with_reducible refine gate_dst (N := 3) rfl ?_); refine bxg_ 3 #[.int .i64 m, .int .i64 n] 52 HB ?_; clear HB GR; intro aa hg J hb b ab HB GR; obtain ⟨ad, ae⟩ := nb_ hg a; replace a := bb a hb; clear hb hg))
 replace a := dB a; replace b := dB b; replace HB := dL HB; have GR2 : Gr w J.drew := inferInstance; clear GR; have GR := GR2; clear GR2; refine s4_ 13 [] (bq a 0) (bq a 1) (bq b 0) (bq b 1) (fun d => ?_); refine with_tabW impl_tieOrder.tab1 impl_tieOrder.bits1 (fun c q => ?_); generalize J.drew = w8 at a b HB GR d ⊢; refine pz_ 0 c ?_; refine pz_ 2 c ?_; refine pz_ 5 c ?_; refine pz_ 7 c ?_; refine tz_ 1 c q d ?_; refine tz_ 3 c q d ?_; refine tz_ 6 c q d ?_; refine tz_ 8 c q d ?_; refine on_ 4 c (fun K hK => ?_); refine gg_ Try.func115 #[.int .i64 j, .int .i64 m] ?_
 with_reducible refine (cmp_Compare_int.calls j m g _ E.out).mono ?_
 rintro e w' ⟨rfl, ⟨nd, rfl⟩⟩; refine ⟨_, rfl, ?_⟩; refine hK.out _ _ ⟨(bc a 0), (bc a 1), (bc b 0), (bc b 1)⟩ (fun d => ?_); clear hK K; refine nz_ 9 ?_; refine on_ 9 c (fun K hK => ?_); refine gg_ Try.func115 #[.int .i64 l, .int .i64 n] ?_
 with_reducible refine (cmp_Compare_int.calls l n i _ G.out).mono ?_
 rintro e w' ⟨rfl, ⟨nd2, rfl⟩⟩; refine ⟨_, rfl, ?_⟩; refine hK.out _ _ ⟨(bc a 0), (bc a 1), (bc b 0), (bc b 1)⟩ (fun d => ?_); clear hK K; refine nz_ 14 ?_; refine on_ 10 c (fun K hK => ?_); refine R_litg_step (Kd.int .i64) _ 3 ?hg (N := 15) ?hd (xs := ([g, i] : List Int)) (inner := [.int .i64 g, .int .i64 i]) (ok := fun _ => True) (okp := fun _ => True) ?hr ?hp (fun _ hk => hk) trivial (Below.refl _ _) (Nat.le_refl _) (by simp) ?_; (case hd => rfl); (case hg => rfl); (case hr => first | (go_simp; done) | (go_simp; rfl)); (case hp => exact (Reps.one (show Kd.M (Kd.int .i64) _ _ _ g [.int .i64 g] from rfl) (Reps.one (show Kd.M (Kd.int .i64) _ _ _ i [.int .i64 i] from rfl) (Reps.none _ _)))); intro af w9 p hb L O GR3; clear L O; (first | rw [← x.out] at p | (simp only [Int.reduceToNat] at p; rw [← x.out] at p)); have y := am (Kd.R_lower p (below_size (bn HB))); have z := bb a hb; have A := bb b hb; have B := bs HB hb; have GR4 : Gr w w9 := Gr.trans inferInstance GR3; clear a b HB GR GR3; have u := y; have a := z; have b := A; have HB := B; clear y z A B hb p; obtain ⟨P, T, D⟩ := Kd.R_slice u.out; (first | subst D | (injection D with f1_ f2_ f3_; have U := f1_.symm; have W := f3_.symm; clear f1_ f2_ f3_; subst U; subst W)); refine hK.out _ _ ⟨(bc a 0), (bc a 1), (bc b 0), (bc b 1)⟩ (fun d => ?_); clear hK K; refine nz_ 15 ?_; refine on_ 11 c (fun K hK => ?_); refine gg_ Try.func114 #[.slice P s.length T] ?_
 with_reducible refine (cmp_Or_int.calls k _ _ s o _ ?z_1 ?z_2 I.out).mono ?_
 (case z_1 => exact (Kd.R_reads' (onR u)).2.2); (case z_2 => exact (Kd.R_reads' u.out).2.1); rintro e w' ⟨rfl, ⟨nd3, rfl⟩⟩; refine ⟨_, rfl, ?_⟩; refine hK.out _ _ ⟨(bc a 0), (bc a 1), (bc b 0), (bc b 1)⟩ (fun d => ?_); clear hK K; refine nz_ 16 ?_; refine pz_ 12 c ?_; refine done_ (done_of c.out (by kernel_rfl)) ?_; try go_wp2
 go_ret
 exact ⟨er_, inferInstance⟩
end Go.Proofs.Ytffflhmblelegaa.F
