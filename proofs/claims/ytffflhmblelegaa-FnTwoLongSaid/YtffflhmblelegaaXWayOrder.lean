/-
The program's wayOrder, and what it does to the world: it draws and lays blocks, no more.
-/
import Derived.Test.YtffflhmblelegaaXTieOrder
import Derived.Test.YtffflhmblelegaaF0
import Derived.Test.YtffflhmblelegaaF4
namespace Go.Proofs.Ytffflhmblelegaa.F
open Go.RowKit Go.Proofs.YtffflhmblelegaaW.PrintWords Go.Proofs.YtffflhmblelegaaW.PrintLast Go.Proofs.YtffflhmblelegaaW.PrintMore
attribute [local go_sem] max2_int min2_int max_two min_two max_three min_three max_four min_four
set_option linter.unusedVariables false
set_option linter.unusedSimpArgs false
attribute [local go_sem high] eqA52
section
variable {P : Program} {ops : Array Oper} {Q : Exit → Act → World → Prop} {rest : List Oper} {o : Oper} {a : Act}
theorem R_litg {α : Type} (d : Kd α) {w0 W : World} (base e : Nat) (hgd : o.guard = none) {N : Tmp} (hd : o.dst = some N) {xs : List α} {inner : List Value} {ok okp : Nat → Prop}
    (hrun : (execOp a.eval o).run P W = .ok (.value (.slice (some ⟨W.heap.size, 0, none⟩) xs.length xs.length)) (W.alloc (.cells inner.toArray e)))
    (hrep : Reps (d.M W base okp) d.sz xs inner) (hok : ∀ k, okp k → ok k) (hfresh : ok W.heap.size) (HB : Below base w0 W) (hbase : base ≤ W.heap.size) (hm : xs.length ≤ 9223372036854775807)
    (h : ∀ v1 w1, d.R e w1 base ok v1 xs → Below base w0 w1 → W.grownBy w1 none → (∃ b, v1.ownBlock = some b ∧ W.heap.size ≤ b) → Gr W w1 → wpList P ops Q rest (a.put o.dst v1) w1) : wpList P ops Q (o :: rest) a W :=
  wpList_plain hgd (fun K hK => by
    have hw : Region.wanted o (yielded ops a.tmps) = true := by simp [Region.wanted, hgd]
    have h1 := R_litg_step (ops := ops) (Q := Q) (Kc := K) d base e hw hd hrun hrep hok hfresh HB hbase hm (fun v1 w1 h1 h2 h3 h4 h5 => hK _ _ (h v1 w1 h1 h2 h3 h4 h5))
    rwa [if_pos hw] at h1)
end
/-! ### slices_Compare_int_int: function 142 -/
def slices_Compare_int_int.l0 : Nat → List Int → List Int → List Int → Int → Int → Option (Int)
 | 0, _, _, _, _, _ => none
 | k + 1, x0, x1, x9, x10, x11 => if x11 < x10 then (if 0 ≤ x11 then (if x11 < (x9.length : Int) then (if x11 ≥ (x1.length : Int) then (some 1) else (if x11 < (x1.length : Int) then ((cmp_Compare_int.f (rd x9 x11) (rd x1 x11)).bind fun t424 => (if t424 = 0 then (slices_Compare_int_int.l0 k x0 x1 x9 x10 (wrap64 (x11 + 1))) else (some t424))) else (none))) else (none)) else (none)) else (if (x0.length : Int) < (x1.length : Int) then (some (-1)) else (some 0))
def slices_Compare_int_int.f (k : Nat) (l0 : List Int) (l1 : List Int) : Option (Int) := slices_Compare_int_int.l0 k l0 l1 l0 (l0.length : Int) 0
set_option maxHeartbeats 8000000 in
set_option maxRecDepth 100000 in
theorem slices_Compare_int_int.calls (k : Nat) (u : Option Addr) (x : Nat) (l0 : List Int) (y : Option Addr) (q : Nat) (b : List Int) (r : Int) (w : World) (z : Kd.C (Kd.int .i64) w u l0.length l0) (A : l0.length ≤ x) (B : Kd.C (Kd.int .i64) w y b.length b) (D : b.length ≤ q) (h : slices_Compare_int_int.f k l0 b = some r) :
  Calls Try.prog 142 #[.slice u l0.length x, .slice y b.length q] w fun e w' => e = .returned (.int .i64 r) ∧ Drawn0 w w' := by
 have s := am z; have HC0 := am A; clear z A; have E := am B; have HC1 := am D; clear B D
 have H : (slices_Compare_int_int.l0 k l0 b l0 (l0.length : Int) 0) = some r := h
 clear h; have H' := am H; clear H; go_enter Try.func142, Try.ntmps142; go_wp2
 go_loopg [11] k (fun kq L w' => ∃ (a : Int), L = .int .i64 a ∧ Aside0 (slices_Compare_int_int.l0 kq l0 b l0 (l0.length : Int) a = some r) ∧ Aside0 (kq ≤ k) ∧ Drawn0 w w')
 case atStart => exact ⟨(0), rs_, H', ⟨Nat.le_refl _⟩, by repeat (first | exact Drawn0.refl _ | apply Drawn0.step)⟩
 case round =>
  clear H'; (try clear q); obtain ⟨a, rfl, HA, G, ⟨m1, rfl⟩⟩ := hrel; cases gk with
  | zero => exact absurd HA.out (by simp [slices_Compare_int_int.l0])
  | succ k1 =>
   have H := HA.out; clear HA; simp only [slices_Compare_int_int.l0] at H; by_cases n : a < (l0.length : Int)
   ·rw [if_pos n] at H; have M := decide_eq_true n; clear n; obtain ⟨Z, H⟩ := id_ H; obtain ⟨aa, H⟩ := id_ H; by_cases o : a ≥ (b.length : Int)
    ·rw [if_pos o] at H; have O := decide_eq_true o; clear o; obtain rfl := Option.some.inj H; have c : 0 ≤ (a : Int) := oa; have d : a < (l0.length : Int) := oa; obtain ⟨I, p, J⟩ := Kd.at_int s.out a c d; cases p; obtain ⟨c, d⟩ := e2_ c d; go_wp2
     go_ret
     exact ⟨rs_, by repeat (first | exact Drawn0.refl _ | apply Drawn0.step)⟩
    ·rw [if_neg o] at H; have O := decide_eq_false o; clear o; obtain ⟨ab, H⟩ := id_ H; obtain ⟨i, K, H⟩ := bi_ H; by_cases j : i = 0
     ·rw [if_pos j] at H; have P : (i == 0) = true := beq_iff_eq.mpr j; have T : (i != 0) = false := bne_eq_false_iff_eq.mpr j; clear j; have H' := am H; clear H; have c : 0 ≤ (a : Int) := oa; have d : a < (l0.length : Int) := oa; obtain ⟨I, p, J⟩ := Kd.at_int s.out a c d; cases p; obtain ⟨c, d⟩ := e2_ c d; have l : 0 ≤ (a : Int) := oa; have m : a < (b.length : Int) := oa; obtain ⟨U, t, W⟩ := Kd.at_int E.out a l m; cases t; obtain ⟨l, m⟩ := e2_ l m
      go_wp2_with (first | ((with_reducible refine gate_callee (f := 115) rfl ?_); refine gl_ (some 26) Try.func115 #[.int .i64 (rd l0 a), .int .i64 (rd b a)] ?_; (with_reducible refine (cmp_Compare_int.calls (rd l0 a) (rd b a) i _ K.out).mono ?_); rintro e w' ⟨rfl, ⟨nd, rfl⟩⟩; refine ⟨_, rfl, ?_⟩))
      go_roundg k1
      case measure => have := G.out; omega
      case rel => exact ⟨(wrap64 (a + 1)), rs_, H', ⟨by have := G.out; omega⟩, by repeat (first | exact Drawn0.refl _ | apply Drawn0.step)⟩
     ·rw [if_neg j] at H; have P : (i == 0) = false := beq_eq_false_iff_ne.mpr j; have T : (i != 0) = true := bne_iff_ne.mpr j; obtain rfl := Option.some.inj H; have c : 0 ≤ (a : Int) := oa; have d : a < (l0.length : Int) := oa; obtain ⟨I, p, J⟩ := Kd.at_int s.out a c d; cases p; obtain ⟨c, d⟩ := e2_ c d; have l : 0 ≤ (a : Int) := oa; have m : a < (b.length : Int) := oa; obtain ⟨U, t, W⟩ := Kd.at_int E.out a l m; cases t; obtain ⟨l, m⟩ := e2_ l m
      go_wp2_with (first | ((with_reducible refine gate_callee (f := 115) rfl ?_); refine gl_ (some 26) Try.func115 #[.int .i64 (rd l0 a), .int .i64 (rd b a)] ?_; (with_reducible refine (cmp_Compare_int.calls (rd l0 a) (rd b a) i _ K.out).mono ?_); rintro e w' ⟨rfl, ⟨nd, rfl⟩⟩; refine ⟨_, rfl, ?_⟩))
      go_ret
      exact ⟨rs_, by repeat (first | exact Drawn0.refl _ | apply Drawn0.step)⟩
   ·rw [if_neg n] at H; have M := decide_eq_false n; clear n; by_cases g : (l0.length : Int) < (b.length : Int)
    ·rw [if_pos g] at H; have X := decide_eq_true g; have Y : decide (l0.length < b.length) = true := decide_eq_true (Int.ofNat_lt.mp g); clear g; obtain rfl := Option.some.inj H; go_wp2
     go_ret
     exact ⟨rs_, by repeat (first | exact Drawn0.refl _ | apply Drawn0.step)⟩
    ·rw [if_neg g] at H; have X := decide_eq_false g; have Y : decide (l0.length < b.length) = false := decide_eq_false (fun h => g (Int.ofNat_lt.mpr h)); clear g; obtain rfl := Option.some.inj H; go_wp2
     go_ret
     exact ⟨rs_, by repeat (first | exact Drawn0.refl _ | apply Drawn0.step)⟩
/-! ### impl_wayOrder: function 118 -/
def impl_wayOrder.f (k : Nat) (l0 : List Int) (l1 : List Int) : Option (Int) := (cmp_Compare_int.f (l0.length : Int) (l1.length : Int)).bind fun t425 => ((slices_Compare_int_int.f k l0 l1).bind fun t426 => ((cmp_Or_int.f k (([t425, t426] : List Int))).bind fun t430 => (some t430)))
set_option maxHeartbeats 8000000 in
set_option maxRecDepth 100000 in
theorem wayOrder_gr (k : Nat) (j : Option Addr) (l : Nat) (a : List Int) (m : Option Addr) (n : Nat) (b : List Int) (r : Int) (w : World) (s : Kd.C (Kd.int .i64) w j a.length a) (t : a.length ≤ l) (u : Kd.C (Kd.int .i64) w m b.length b) (x : b.length ≤ n) (h : impl_wayOrder.f k a b = some r) :
  Calls Try.prog 118 #[.slice j a.length l, .slice m b.length n] w fun e w' => e = .returned (.int .i64 r) ∧ Gr w w' := by
 have z := am s; have A := am t; clear s t; have B := am u; have D := am x; clear u x; have HB := am (Below.refl w.heap.size w)
 have H : ((cmp_Compare_int.f (a.length : Int) (b.length : Int)).bind fun c => ((slices_Compare_int_int.f k a b).bind fun d => ((cmp_Or_int.f k (([c, d] : List Int))).bind fun g => (some g)))) = some r := h
 clear h; obtain ⟨c, E, H⟩ := bi_ H; obtain ⟨d, G, H⟩ := bi_ H; obtain ⟨o, p⟩ : ∃ y_ : List Int, y_ = (([c, d] : List Int)) := ⟨_, rfl⟩; replace H : ((cmp_Or_int.f k o).bind fun g => (some g)) = some r := nh_ p H; have y := am p; clear p; obtain ⟨g, I, H⟩ := bi_ H; obtain rfl := Option.some.inj H; go_enter Try.func118, Try.ntmps118
 go_wp2_with (first | ((with_reducible refine gate_callee (f := 115) rfl ?_); refine gl_ (some 9) Try.func115 #[.int .i64 (a.length : Int), .int .i64 (b.length : Int)] ?_; (with_reducible refine (cmp_Compare_int.calls (a.length : Int) (b.length : Int) c _ E.out).mono ?_); rintro e w' ⟨rfl, ⟨nd, rfl⟩⟩; refine ⟨_, rfl, ?_⟩) | ((with_reducible refine gate_callee (f := 142) rfl ?_); refine gl_ (some 12) Try.func142 #[.slice j a.length l, .slice m b.length n] ?_; (with_reducible refine (slices_Compare_int_int.calls k _ _ a _ _ b d _ ?z_1 ?z_2 ?z_3 ?z_4 G.out).mono ?_); (case z_1 => repeat (first | exact z.out | (with_reducible refine Kd.C_alloc ?_ _) | (with_reducible refine Kd.C_drewN ?_ _) | (with_reducible refine Kd.C_drew ?_))); (case z_2 => exact A.out); (case z_3 => repeat (first | exact B.out | (with_reducible refine Kd.C_alloc ?_ _) | (with_reducible refine Kd.C_drewN ?_ _) | (with_reducible refine Kd.C_drew ?_))); (case z_4 => exact D.out); rintro e w' ⟨rfl, ⟨nd, rfl⟩⟩; refine ⟨_, rfl, ?_⟩) | ((with_reducible refine gate_dst (N := 13) rfl ?_); refine R_litg (Kd.int .i64) _ 3 ?hg (N := 13) ?hd (xs := ([c, d] : List Int)) (inner := [.int .i64 c, .int .i64 d]) (ok := fun _ => True) (okp := fun _ => True) ?hr ?hp (fun _ hk => hk) trivial (Below.refl _ _) (Nat.le_refl _) (by simp) ?_; (case hd => rfl); (case hg => rfl); (case hr => first | (go_simp; done) | (go_simp; rfl)); (case hp => exact (Reps.one (show Kd.M (Kd.int .i64) _ _ _ c [.int .i64 c] from rfl) (Reps.one (show Kd.M (Kd.int .i64) _ _ _ d [.int .i64 d] from rfl) (Reps.none _ _)))); intro T w6 i hb J K GR3; have GR4 : Gr w w6 := Gr.trans inferInstance GR3; clear GR3 J K; (first | rw [← y.out] at i | (simp only [Int.reduceToNat] at i; rw [← y.out] at i)); have q := am (Kd.R_lower i (below_size (bn HB))); replace HB := bs HB hb; clear hb i; obtain ⟨L, O, P⟩ := Kd.R_slice q.out; subst P) | ((with_reducible refine gate_callee (f := 114) rfl ?_); refine gl_ (some 14) Try.func114 #[.slice L o.length O] ?_; (with_reducible refine (cmp_Or_int.calls k _ _ o g _ ?z_1 ?z_2 I.out).mono ?_); (case z_1 => exact (Kd.R_reads' (onR q)).2.2); (case z_2 => exact (Kd.R_reads' q.out).2.1); rintro e w' ⟨rfl, ⟨nd, rfl⟩⟩; refine ⟨_, rfl, ?_⟩))
 go_ret
 exact ⟨er_, inferInstance⟩
end Go.Proofs.Ytffflhmblelegaa.F
