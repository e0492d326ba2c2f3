-- By oprint.py.
import Derived.Test.YthmddmobfkfgeaaF0
import Derived.Test.YthmddmobfkfgeaaF11
import Derived.Test.YthmddmobfkfgeaaF42
namespace Go.Proofs.Ythmddmobfkfgeaa.F
open Go.RowKit Go.Proofs.YthmddmobfkfgeaaW.PrintWords Go.Proofs.YthmddmobfkfgeaaW.PrintLast Go.Proofs.YthmddmobfkfgeaaW.PrintMore
attribute [local go_sem] max2_int min2_int max_two min_two max_three min_three max_four min_four
set_option linter.unusedVariables false
set_option linter.unusedSimpArgs false

/-! ### impl_BridgeList: function 46 -/
def impl_BridgeList.f (k : Nat) (a0_0 : Int) (l0_1 : List (S33)) : Option ((List (S33))) := (impl_NetOk.f k a0_0 l0_1).bind fun t805 => (if t805 = true then ((impl_Net_bridges.f k a0_0 l0_1).bind fun t806 => (some t806)) else (some (([] : List (S33)))))
theorem impl_BridgeList.mono : ∀ a b k, LeO (impl_BridgeList.f k a b) (impl_BridgeList.f (k + 1) a b) := by
 intro a b k; unfold impl_BridgeList.f; have m0_ := @impl_NetOk.mono; have m1_ := @impl_Net_bridges.mono; exact mo_
set_option maxHeartbeats 8000000 in
set_option maxRecDepth 100000 in
theorem impl_BridgeList.calls (k : Nat) (b : Int) (d : Option Addr) (g : Nat) (a : List (S33)) (r : List (S33)) (w : World) (p : Kd.C k33 w d a.length a) (q : a.length ≤ g) (h : impl_BridgeList.f k b a = some r) :
  Calls Try.prog 46 #[.agg #[.int .i64 b, .slice d a.length g]] w fun e w' => ∃ s : Value, e = .returned (s) ∧ Kd.R k33 33 w' w.heap.size (fun _ => True) s r ∧ Below w.heap.size w w' := by
 have K := Try.underlying31; have j := am p; have l := am q; clear p q; have HB := am (Below.refl w.heap.size w)
 have H : ((impl_NetOk.f k b a).bind fun m => (if m = true then ((impl_Net_bridges.f k b a).bind fun n => (some n)) else (some (([] : List (S33)))))) = some r := h
 clear h; obtain ⟨m, t, H⟩ := bi_ H; by_cases u : m = true
 ·subst u; rw [if_pos rfl] at H; obtain ⟨n, z, H⟩ := bi_ H; obtain rfl := Option.some.inj H; go_enter Try.func46, Try.ntmps46
  go_wp2_with (first | ((with_reducible refine gate_dst (N := 1) rfl ?_); refine bx_ 1 #[.int .i64 b, .slice d a.length g] 31 HB ?_; clear HB; intro A hg w5 hb c B HB; clear hb hg; have L := c2 c) | ((with_reducible refine gate_callee (f := 85) rfl ?_); refine gl_ (some 4) Try.func85 #[.agg #[.int .i64 b, .slice d a.length g]] ?_; (with_reducible refine (impl_NetOk.calls k b _ _ a true _ ?z_1 ?z_2 t.out).mono ?_); (case z_1 => exact cb j HB); (case z_2 => exact l.out); rintro e w7 ⟨rfl, hb⟩; refine ⟨_, rfl, ?_⟩; replace c := bb c hb; replace HB := bs HB hb; (try clear hb); have M := c2 c) | ((with_reducible refine gate_callee (f := 100) rfl ?_); refine gl_ (some 8) Try.func100 #[.agg #[.int .i64 b, .slice d a.length g]] ?_; (with_reducible refine (impl_Net_bridges.calls k b _ _ a n _ ?z_1 ?z_2 z.out).mono ?_); (case z_1 => exact cb j HB); (case z_2 => exact l.out); rintro e w9 ⟨O, rfl, x, hb⟩; refine ⟨_, rfl, ?_⟩; have D := am (Kd.R_lower x (below_size (bn HB))); replace c := bb c hb; replace HB := bs HB hb; (try clear hb x)))
  go_ret
  exact ⟨_, er_, onR D, bn HB⟩
 ·obtain rfl := nt_ u; rw [if_neg nf_] at H; obtain ⟨E, o⟩ : ∃ y_ : List (S33), y_ = (([] : List (S33))) := ⟨_, rfl⟩; replace H : (some E) = some r := nh_ o H; have y := am o; clear o; obtain rfl := Option.some.inj H; go_enter Try.func46, Try.ntmps46
  go_wp2_with (first | ((with_reducible refine gate_dst (N := 1) rfl ?_); refine bx_ 1 #[.int .i64 b, .slice d a.length g] 31 HB ?_; clear HB; intro A hg w10 hb c B HB; clear hb hg; have P := c2 c) | ((with_reducible refine gate_callee (f := 85) rfl ?_); refine gl_ (some 4) Try.func85 #[.agg #[.int .i64 b, .slice d a.length g]] ?_; (with_reducible refine (impl_NetOk.calls k b _ _ a false _ ?z_1 ?z_2 t.out).mono ?_); (case z_1 => exact cb j HB); (case z_2 => exact l.out); rintro e w12 ⟨rfl, hb⟩; refine ⟨_, rfl, ?_⟩; replace c := bb c hb; replace HB := bs HB hb; (try clear hb)) | ((with_reducible refine gate_dst (N := 6) rfl ?_); refine Kd.R_lit k33 _ 33 ?hg (N := 6) ?hd (xs := ([] : List (S33))) (inner := []) (ok := fun _ => True) (okp := fun _ => True) ?hr ?hp (fun _ hk => hk) trivial (Below.refl _ _) (Nat.le_refl _) (by simp) ?_; (case hd => rfl); (case hg => rfl); (case hr => first | (go_simp; done) | (go_simp; rfl)); (case hp => exact (Reps.none _ _)); intro T w13 i hb G I; clear G I; (first | rw [← y.out] at i | (simp only [Int.reduceToNat] at i; rw [← y.out] at i)); have J := am (Kd.R_lower i (below_size (bn HB))); replace c := bb c hb; replace HB := bs HB hb; clear hb i))
  go_ret
  exact ⟨_, er_, onR J, bn HB⟩

end Go.Proofs.Ythmddmobfkfgeaa.F
