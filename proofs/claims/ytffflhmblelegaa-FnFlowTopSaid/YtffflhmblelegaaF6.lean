-- By oprint.py.
import Derived.Test.YtffflhmblelegaaF0
import Derived.Test.YtffflhmblelegaaF3
import Derived.Test.YtffflhmblelegaaF4
namespace Go.Proofs.Ytffflhmblelegaa.F
open Go.RowKit Go.Proofs.YtffflhmblelegaaW.PrintWords Go.Proofs.YtffflhmblelegaaW.PrintLast Go.Proofs.YtffflhmblelegaaW.PrintMore
attribute [local go_sem] max2_int min2_int max_two min_two max_three min_three max_four min_four
set_option linter.unusedVariables false
set_option linter.unusedSimpArgs false
/-! ### spec_NetHas: function 99 -/
def spec_NetHas.f (k : Nat) (a0_0 : Int) (l0_1 : List (S52)) (a1 : Int) (a2 : Int) : Option (Bool) := (spec_NetOk.f k a0_0 l0_1).bind fun t121 => (if t121 = true then ((spec_l1Has.f k a0_0 l0_1 a1 a2).bind fun t122 => (some t122)) else (some false))
set_option maxHeartbeats 8000000 in
set_option maxRecDepth 100000 in
theorem spec_NetHas.calls (k : Nat) (b : Int) (d : Option Addr) (i : Nat) (a : List (S52)) (j : Int) (l : Int) (r : Bool) (w : World) (q : Kd.C k52 w d a.length a) (s : a.length ≤ i) (h : spec_NetHas.f k b a j l = some r) :
  Calls Try.prog 99 #[.agg #[.int .i64 b, .slice d a.length i], .int .i64 j, .int .i64 l] w fun e w' => e = .returned (.bool r) ∧ Below w.heap.size w w' := by
 have B := Try.underlying25; have m := am q; have n := am s; clear q s; have HB := am (Below.refl w.heap.size w)
 have H : ((spec_NetOk.f k b a).bind fun o => (if o = true then ((spec_l1Has.f k b a j l).bind fun p => (some p)) else (some false))) = some r := h
 clear h; obtain ⟨o, t, H⟩ := bi_ H; by_cases u : o = true
 ·subst u; rw [if_pos rfl] at H; obtain ⟨p, x, H⟩ := bi_ H; obtain rfl := Option.some.inj H; go_enter Try.func99, Try.ntmps99
  go_wp2_with (first | ((with_reducible refine gate_dst (N := 3) rfl ?_); refine bx_ 3 #[.int .i64 b, .slice d a.length i] 25 HB ?_; clear HB; intro y hg w7 hb c z HB; clear hb hg; have D := c2 c) | ((with_reducible refine gate_callee (f := 31) rfl ?_); refine gl_ (some 8) Try.func31 #[.agg #[.int .i64 b, .slice d a.length i]] ?_; (with_reducible refine (spec_NetOk.calls k b _ _ a true _ ?z_1 ?z_2 t.out).mono ?_); (case z_1 => exact cb m HB); (case z_2 => exact n.out); rintro e w9 ⟨rfl, hb⟩; refine ⟨_, rfl, ?_⟩; replace c := bb c hb; replace HB := bs HB hb; (try clear hb); have E := c2 c) | (go_at_call 120; (with_reducible refine (spec_l1Has.calls k b _ _ a j l p _ ?z_1 ?z_2 x.out).mono ?_); (case z_1 => exact cb m HB); (case z_2 => exact n.out); rintro e w11 ⟨rfl, hb⟩; replace c := bb c hb; replace HB := bs HB hb; (try clear hb)))
  go_ret
  exact ⟨er_, bn HB⟩
 ·obtain rfl := nt_ u; rw [if_neg nf_] at H; obtain rfl := Option.some.inj H; go_enter Try.func99, Try.ntmps99
  go_wp2_with (first | ((with_reducible refine gate_dst (N := 3) rfl ?_); refine bx_ 3 #[.int .i64 b, .slice d a.length i] 25 HB ?_; clear HB; intro y hg w12 hb c z HB; clear hb hg; have G := c2 c) | ((with_reducible refine gate_callee (f := 31) rfl ?_); refine gl_ (some 8) Try.func31 #[.agg #[.int .i64 b, .slice d a.length i]] ?_; (with_reducible refine (spec_NetOk.calls k b _ _ a false _ ?z_1 ?z_2 t.out).mono ?_); (case z_1 => exact cb m HB); (case z_2 => exact n.out); rintro e w14 ⟨rfl, hb⟩; refine ⟨_, rfl, ?_⟩; replace c := bb c hb; replace HB := bs HB hb; (try clear hb)))
  go_ret
  exact ⟨er_, bn HB⟩
/-- A state of type 105 at block g of W; what its slices lead to came in by w0. -/
def IsS105 (w0 W : World) (g : Nat) (f0 : List Int) (f1 : Int) : Prop := ∃ A0 c0, W.heap[g]? = some (.cells #[.slice A0 f0.length c0, .int .i64 f1] 105 (0, 0)) ∧ w0.heap.size ≤ g ∧ Kd.C (Kd.int .u8) w0 A0 f0.length f0
theorem IsS105.grown {w0 W : World} {g : Nat} {f0 : List Int} {f1 : Int} {W1 : World} {row : Option Nat} (h : IsS105 w0 W g f0 f1) (hw : W.grownBy W1 row) (hne : some g ≠ row) : IsS105 w0 W1 g f0 f1 := by
 obtain ⟨A0, c0, hb, hg, hr0⟩ := h; exact ⟨A0, c0, blk_grown hb hw hne, hg, hr0⟩
theorem IsS105.own_neN {w0 W : World} {g : Nat} {f0 : List Int} {f1 : Int} {α : Type} {d : Kd α} {e : Nat} {base : Nat} {ok : Nat → Prop} {v : Value} {xs : List α} (h : IsS105 w0 W g f0 f1) (ho : Kd.N d e W base ok v xs) (ht : e ≠ 105) : some g ≠ v.ownBlock := by
 obtain ⟨A0, c0, hb, hg, hr0⟩ := h; exact Kd.N_ne ho hb ht
theorem IsS105.fresh {w0 W : World} {g : Nat} {f0 : List Int} {f1 : Int} (h : IsS105 w0 W g f0 f1) : ∀ k, W.heap.size ≤ k → k ≠ g := by
 obtain ⟨A0, c0, hb, hg, hr0⟩ := h; exact Kd.freshB hb
theorem IsS105.below {w0 W : World} {g : Nat} {f0 : List Int} {f1 : Int} {W1 : World} (h : IsS105 w0 W g f0 f1) (hw : Below W.heap.size W W1) : IsS105 w0 W1 g f0 f1 := h.grown (grown_of_below hw none) (by simp)
theorem IsS105.alloc {w0 W : World} {g : Nat} {f0 : List Int} {f1 : Int} (h : IsS105 w0 W g f0 f1) (o : Obj) : IsS105 w0 (W.alloc o) g f0 f1 := h.below (below_alloc (Below.refl _ _) o)
theorem IsS105.drewN {w0 W : World} {g : Nat} {f0 : List Int} {f1 : Int} (h : IsS105 w0 W g f0 f1) (m : Nat) : IsS105 w0 (W.drewN m) g f0 f1 := h
theorem IsS105.drew {w0 W : World} {g : Nat} {f0 : List Int} {f1 : Int} (h : IsS105 w0 W g f0 f1) : IsS105 w0 W.drew g f0 f1 := h
theorem IsS105.at_ {w0 W : World} {g : Nat} {f0 : List Int} {f1 : Int} {w' : World} {m : Nat} (hq : W.drewN m = w') (h : IsS105 w0 W g f0 f1) : IsS105 w0 w' g f0 f1 := by subst hq; exact IsS105.drewN h m
theorem IsS105.apart {w0 W : World} {g : Nat} {f0 : List Int} {f1 : Int} {α : Type} {d : Kd α} {e : Nat} {base : Nat} {ok : Nat → Prop} {v : Value} {xs : List α} (h : IsS105 w0 W g f0 f1) (ho : d.R e W base ok v xs) (ht : ∀ q, q ∈ e :: d.E → q ≠ 105) : d.R e W base (fun k => ok k ∧ k ≠ g) v xs := by
 obtain ⟨A0, c0, hb, hg, hr0⟩ := h; exact Kd.R_types ho hb ht
theorem IsS105.own_ne {w0 W : World} {g : Nat} {f0 : List Int} {f1 : Int} {α : Type} {d : Kd α} {e : Nat} {base : Nat} {ok : Nat → Prop} {v : Value} {xs : List α} (h : IsS105 w0 W g f0 f1) (ho : d.R e W base ok v xs) (ht : e ≠ 105) : some g ≠ v.ownBlock := by
 obtain ⟨A0, c0, hb, hg, hr0⟩ := h; exact Kd.R_ne ho hb ht
theorem IsS105.lt {w0 W : World} {g : Nat} {f0 : List Int} {f1 : Int} (h : IsS105 w0 W g f0 f1) : g < W.heap.size := by
 obtain ⟨A0, c0, hb, hg, hr0⟩ := h; exact blk_lt hb
theorem IsS105.ge {w0 W : World} {g : Nat} {f0 : List Int} {f1 : Int} (h : IsS105 w0 W g f0 f1) : w0.heap.size ≤ g := by
 obtain ⟨A0, c0, hb, hg, hr0⟩ := h; exact hg
theorem IsS105.ne_blk {w0 W : World} {g : Nat} {f0 : List Int} {f1 : Int} {a : Nat} {cs : Array Value} {t : TypeId} {fr : Nat × Nat} (h : IsS105 w0 W g f0 f1) (hb2 : W.heap[a]? = some (.cells cs t fr)) (ht : t ≠ 105) : g ≠ a := by
 obtain ⟨A0, c0, hb, hg, hr0⟩ := h; rintro rfl; rw [hb] at hb2; injection hb2 with hb2
 injection hb2 with _ ht2
 exact ht ht2.symm
theorem IsS105.far {w0 W : World} {g : Nat} {f0 : List Int} {f1 : Int} {p : Addr} (h : IsS105 w0 W g f0 f1) (hne : g ≠ p.block) (u : Value) : IsS105 w0 (W.setCell p u) g f0 f1 := by
 obtain ⟨A0, c0, hb, hg, hr0⟩ := h; exact ⟨A0, c0, blk_far hb hne u, hg, hr0⟩
theorem cellS105_0 {W : World} {g : Nat} {A0 : Option Addr} {c0 : Nat} {f0 : List Int} {f1 : Int} (h : W.heap[g]? = some (.cells #[.slice A0 f0.length c0, .int .i64 f1] 105 (0, 0))) : W.cell? ⟨g, 0, none⟩ = some (.slice A0 f0.length c0) := (blk_cell h 0).trans rfl
theorem cellS105_1 {W : World} {g : Nat} {A0 : Option Addr} {c0 : Nat} {f0 : List Int} {f1 : Int} (h : W.heap[g]? = some (.cells #[.slice A0 f0.length c0, .int .i64 f1] 105 (0, 0))) : W.cell? ⟨g, 1, none⟩ = some (.int .i64 f1) := (blk_cell h 1).trans rfl
theorem IsS105.set_1 {w0 W : World} {g : Nat} {f0 : List Int} {f1 : Int} (h : IsS105 w0 W g f0 f1) (x : Int) : IsS105 w0 (W.setCell ⟨g, 1, none⟩ (.int .i64 x)) g f0 x := by
 obtain ⟨A0, c0, hb, hg, hr0⟩ := h; exact ⟨A0, c0, by simpa using blk_set hb 1 (.int .i64 x), hg, hr0⟩
/-- as it now stands -/
theorem IsS105.now {w0 W : World} {g : Nat} {f0 : List Int} {f1 : Int} (h : IsS105 w0 W g f0 f1 := by repeat (first | (with_reducible first | exact Aside0.out (self := by assumption) | apply IsS105.alloc | apply IsS105.drewN | apply IsS105.drew | apply IsS105.set_1 | refine IsS105.far ?_ ao _) | exact Aside0.out (self := by assumption))) : IsS105 w0 W g f0 f1 := h
/-! ### spec_l6Open: function 46 -/
def spec_l6Open.f (l0 : List Int) : Option (List Int × Int) := if (l0.length : Int) > 2000 then (if 2000 ≤ (l0.length : Int) then (some (l0.take 2000, 0)) else (none)) else (some (l0, 0))
set_option maxHeartbeats 8000000 in
set_option maxRecDepth 100000 in
theorem spec_l6Open.calls (c : Option Addr) (d : Nat) (a : List Int) (j : List Int) (l : Int) (b w : World) (hB : Below b.heap.size b w) (n : Kd.C (Kd.int .u8) b c a.length a) (o : a.length ≤ d) (h : spec_l6Open.f a = some (j, l)) :
  Calls Try.prog 46 #[.slice c a.length d] w fun e w' => ∃ g_ : Nat, e = .returned (.pointer (some ⟨g_, 0, none⟩)) ∧ IsS105 b w' g_ j l ∧ Below b.heap.size b w' ∧ Below w.heap.size w w' := by
 have L := Try.underlying105; have p := am n; have y := am o; clear n o; have HBW := am (Below.refl w.heap.size w); have q := am hB.size; have HB := am hB; clear hB
 have H : (if (a.length : Int) > 2000 then (if 2000 ≤ (a.length : Int) then (some (a.take 2000, 0)) else (none)) else (some (a, 0))) = some (j, l) := h
 clear h; by_cases c2 : (a.length : Int) > 2000
 ·rw [if_pos c2] at H; have z := decide_eq_true c2; have A : decide (2000 < a.length) = true := decide_eq_true (by omega); clear c2; obtain ⟨m, H⟩ := ig_ H; have M := eq_true m; have O := decide_eq_true m; clear m; simp only [Option.some.injEq, Prod.mk.injEq] at H; obtain ⟨rfl, rfl⟩ := H; obtain ⟨i04, s, _, t, _⟩ := info_parts info5; obtain ⟨T, u, x⟩ := print_take_of (P := Try.prog) (Value.int .u8) 0 22 5 .i64 Try.underlying22 s t c d a 2000 (by omega) (oa) y.out; have B := am (Kd.C_of_reads (h1 := fun _ => rfl) (u _ (Kd.reads_of_C p.out))); have U := am x; clear u x s t; go_enter Try.func46, Try.ntmps46
  go_wp2_with (first | ((with_reducible refine gate_dst (N := 10) rfl ?_); refine be_ 10 #[.slice c (a.take 2000).length d, .int .i64 0] 105 ?_; intro g hg w5 hbox hb; replace HB := bs HB hb; have D := bm hbox; have E := am ((by rw [hg]; exact (below_size (by repeat (first | (with_reducible first | exact HBW.out | apply below_alloc | apply pw_below_drewN | apply below_drew1) | exact HBW.out))) : w.heap.size ≤ g)); have G := am ((Nat.le_trans q.out (by rw [hg]; exact (below_size (by repeat (first | (with_reducible first | exact HBW.out | apply below_alloc | apply pw_below_drewN | apply below_drew1) | exact HBW.out))) : w.heap.size ≤ g) : b.heap.size ≤ g)); replace HBW := am (below_step HBW.out hb); clear hb hbox hg))
  go_ret
  exact ⟨_, rfl, (show IsS105 b _ g (a.take 2000) 0 from ⟨_, _, bkn D, G.out, B.out⟩), bn HB, by repeat (first | (with_reducible first | exact HBW.out | apply below_alloc | apply pw_below_drewN | apply below_drew1 | refine below_set ?_ E.out) | exact HBW.out)⟩
 ·rw [if_neg c2] at H; have z := decide_eq_false c2; have A : decide (2000 < a.length) = false := decide_eq_false (by omega); clear c2; simp only [Option.some.injEq, Prod.mk.injEq] at H; obtain ⟨rfl, rfl⟩ := H; go_enter Try.func46, Try.ntmps46
  go_wp2_with (first | ((with_reducible refine gate_dst (N := 10) rfl ?_); refine be_ 10 #[.slice c a.length d, .int .i64 0] 105 ?_; intro i hg w6 hbox hb; replace HB := bs HB hb; have I := bm hbox; have J := am ((by rw [hg]; exact (below_size (by repeat (first | (with_reducible first | exact HBW.out | apply below_alloc | apply pw_below_drewN | apply below_drew1) | exact HBW.out))) : w.heap.size ≤ i)); have K := am ((Nat.le_trans q.out (by rw [hg]; exact (below_size (by repeat (first | (with_reducible first | exact HBW.out | apply below_alloc | apply pw_below_drewN | apply below_drew1) | exact HBW.out))) : w.heap.size ≤ i) : b.heap.size ≤ i)); replace HBW := am (below_step HBW.out hb); clear hb hbox hg))
  go_ret
  exact ⟨_, rfl, (show IsS105 b _ i a 0 from ⟨_, _, bkn I, K.out, p.out⟩), bn HB, by repeat (first | (with_reducible first | exact HBW.out | apply below_alloc | apply pw_below_drewN | apply below_drew1 | refine below_set ?_ J.out) | exact HBW.out)⟩
/-! ### spec_l6Rd_pick: function 49 -/
def spec_l6Rd_pick.j0 : Nat → Int → Bool → List Int → Int → Option (Int × Int)
 | 0, _, _, _, _ => none
 | k + 1, x1, x24, x1000, x1001 => if x24 = true then (some (0, x1001)) else (if (wrap64 (x1001 - 1)) < (x1000.length : Int) then (if 0 ≤ (wrap64 (x1001 - 1)) then (if x1 = 0 then (none) else (some (Int.tmod (wrap64 (rd x1000 (wrap64 (x1001 - 1)))) x1, x1001))) else (none)) else (if (x1000.length : Int) = 0 then (none) else (if 0 ≤ (Int.tmod (wrap64 (x1001 - 1)) (x1000.length : Int)) then (if (Int.tmod (wrap64 (x1001 - 1)) (x1000.length : Int)) < (x1000.length : Int) then (if 0 ≤ (Int.tmod (wrap64 ((wrap64 ((wrap64 (x1001 - 1)) * 7)) + 3)) (x1000.length : Int)) then (if (Int.tmod (wrap64 ((wrap64 ((wrap64 (x1001 - 1)) * 7)) + 3)) (x1000.length : Int)) < (x1000.length : Int) then (if x1 = 0 then (none) else (some (Int.tmod (Go.bits .xor .i64 (wrap64 ((wrap64 ((wrap64 ((wrap64 ((wrap64 (rd x1000 (Int.tmod (wrap64 (x1001 - 1)) (x1000.length : Int)))) * 131)) + (wrap64 ((wrap64 (rd x1000 (Int.tmod (wrap64 ((wrap64 ((wrap64 (x1001 - 1)) * 7)) + 3)) (x1000.length : Int)))) * 1117)))) + (wrap64 ((wrap64 (x1001 - 1)) * 29)))) + (wrap64 ((wrap64 (Int.tdiv (wrap64 (x1001 - 1)) (x1000.length : Int))) * 53)))) (wrap64 (Int.tdiv (wrap64 ((wrap64 ((wrap64 ((wrap64 ((wrap64 (rd x1000 (Int.tmod (wrap64 (x1001 - 1)) (x1000.length : Int)))) * 131)) + (wrap64 ((wrap64 (rd x1000 (Int.tmod (wrap64 ((wrap64 ((wrap64 (x1001 - 1)) * 7)) + 3)) (x1000.length : Int)))) * 1117)))) + (wrap64 ((wrap64 (x1001 - 1)) * 29)))) + (wrap64 ((wrap64 (Int.tdiv (wrap64 (x1001 - 1)) (x1000.length : Int))) * 53)))) 64))) x1, x1001))) else (none)) else (none)) else (none)) else (none))))
def spec_l6Rd_pick.f (k : Nat) (s0_0 : List Int) (s0_1 : Int) (a1 : Int) : Option (Int × Int) := if a1 < 1 then (spec_l6Rd_pick.j0 k a1 true s0_0 (wrap64 (s0_1 + 1))) else (spec_l6Rd_pick.j0 k a1 ((s0_0.length : Int) == 0) s0_0 (wrap64 (s0_1 + 1)))
set_option maxHeartbeats 8000000 in
set_option maxRecDepth 100000 in
theorem spec_l6Rd_pick.calls (k : Nat) (g : Nat) (a : List Int) (b : Int) (c : Int) (j : Int) (l : Int) (d w : World) (hI : IsS105 d w g a b) (hB : Below d.heap.size d w) (h : spec_l6Rd_pick.f k a b c = some (j, l)) :
  Calls Try.prog 49 #[.pointer (some ⟨g, 0, none⟩), .int .i64 c] w fun e w' => e = .returned (.int .i64 j) ∧ IsS105 d w' g a l ∧ Below d.heap.size d w' ∧ KeepBut w w' g none := by
 have GEs_ := am (IsS105.ge hI); have s := am hI; have HK := am (KeepBut.refl w g none); have HL := am hB.size; clear hI; have HW0 := am hB.size; have HB := am hB; clear hB
 have H : (if c < 1 then (spec_l6Rd_pick.j0 k c true a (wrap64 (b + 1))) else (spec_l6Rd_pick.j0 k c ((a.length : Int) == 0) a (wrap64 (b + 1)))) = some (j, l) := h
 clear h; have G := am H; clear H; obtain ⟨ax, ay, x, ab, az⟩ := s.out; have ad := cellS105_0 x; have ae := cellS105_1 x; have af := blk_frozen x 1; clear x ab; go_enter Try.func49, Try.ntmps49
 go_upto_region 2 with (fail)
 repeat (go_quiet (fail); go_upto_region 2 with (fail))
 go_cut [24] (fun ag wc => ∃ (kq : Nat) (y : Bool), ag = .bool y ∧ Aside0 (spec_l6Rd_pick.j0 kq c y a (wrap64 (b + 1)) = some (j, l)) ∧ Aside0 (kq ≤ k) ∧ Aside0 (IsS105 d wc g a (wrap64 (b + 1))) ∧ Aside0 (KeepBut w wc g none) ∧ Aside0 (Below d.heap.size d wc))
 case first =>
  have H := G.out; clear G; by_cases m : c < 1
  ·rw [if_pos m] at H; have o := decide_eq_true m; clear m; (first | rw [o] | (simp only [i64_w, i32_w]; rw [o]) | skip); have H' := am H; clear H; go_wp2
   repeat (go_quiet (fail); try go_wp2)
   go_meet
   case rel => exact ⟨_, (true), rs_, H', ⟨by first | omega | exact Nat.le_refl _⟩, ⟨IsS105.now⟩, ⟨kn HK⟩, ⟨bn HB⟩⟩
  ·rw [if_neg m] at H; have o := decide_eq_false m; clear m; (first | rw [o] | (simp only [i64_w, i32_w]; rw [o]) | skip); have H' := am H; clear H; obtain ⟨aA, aB, z, ah, aC⟩ := s.out; have ai := cellS105_0 z; have aj := cellS105_1 z; have ak := blk_frozen z 1; clear z ah; go_wp2
   repeat (go_quiet (fail); try go_wp2)
   go_meet
   case rel => exact ⟨_, (((a.length : Int) == 0)), rs_, H', ⟨by first | omega | exact Nat.le_refl _⟩, ⟨IsS105.now⟩, ⟨kn HK⟩, ⟨bn HB⟩⟩
 case rest =>
  clear G; (try clear m o ad ae ai aj af ak); obtain ⟨kq, y, rfl, HA, HJ2, s, HK, HB⟩ := hcut; cases kq with
  | zero => exact absurd HA.out (by simp [spec_l6Rd_pick.j0])
  | succ kj2 =>
   have H := HA.out; clear HA; simp only [spec_l6Rd_pick.j0] at H; by_cases U : y = true
   ·subst U; rw [if_pos rfl] at H; simp only [Option.some.injEq, Prod.mk.injEq] at H; obtain ⟨rfl, rfl⟩ := H; go_wp2
    repeat (go_quiet (fail); try go_wp2)
    go_ret
    exact ⟨er_, IsS105.now, bn HB, kn HK⟩
   ·obtain rfl := nt_ U; rw [if_neg nf_] at H; by_cases p : (wrap64 ((wrap64 (b + 1)) - 1)) < (a.length : Int)
    ·rw [if_pos p] at H; have W := decide_eq_true p; clear p; obtain ⟨q, t⟩ : ∃ j_ : Int, (wrap64 ((wrap64 (b + 1)) - 1)) = j_ := ⟨_, rfl⟩; replace H : (if 0 ≤ (q) then (if c = 0 then (none) else (some (Int.tmod (wrap64 (rd a (q))) c, (wrap64 (b + 1))))) else (none)) = some (j, l) := by first | (rw [t] at H; exact H) | (simp only [t] at H ⊢; exact H)
     (try rw [t] at W); have hji9w : (IntKind.i64.wrap ((wrap64 (b + 1)) - 1)) = q := (i64_w _).trans t; obtain ⟨aD, H⟩ := id_ H; by_cases A : c = 0
     ·rw [if_pos A] at H; exact absurd H (by simp)
     ·rw [if_neg A] at H; have aE : (c == 0) = false := beq_eq_false_iff_ne.mpr A; have aF : (c != 0) = true := bne_iff_ne.mpr A; simp only [Option.some.injEq, Prod.mk.injEq] at H; obtain ⟨rfl, rfl⟩ := H; obtain ⟨aG, aH, B, al, an⟩ := s.out; have aI := cellS105_0 B; have aJ := cellS105_1 B; have aK := blk_frozen B 1; clear B al; have I : 0 ≤ ((q) : Int) := oa; have J : (q) < (a.length : Int) := oa; obtain ⟨aL, ap, X⟩ := Kd.at_int an (q) I J; cases ap; replace X := pw_cell_below HB.out X; obtain ⟨I, J⟩ := e2_ I J; go_wp2
      repeat (go_quiet (fail); try go_wp2)
      go_ret
      exact ⟨by first | rfl | (simp [errW_none, errW_some] <;> rfl) | (simp only [← t]; first | rfl | (simp [errW_none, errW_some] <;> rfl)) | (simp [*, errW_none, errW_some] <;> rfl), IsS105.now, bn HB, kn HK⟩
    ·rw [if_neg p] at H; have W := decide_eq_false p; clear p; by_cases u : (a.length : Int) = 0
     ·rw [if_pos u] at H; exact absurd H (by simp)
     ·rw [if_neg u] at H; have aM : ((a.length : Int) == 0) = false := beq_eq_false_iff_ne.mpr u; have aN : ((a.length : Int) != 0) = true := bne_iff_ne.mpr u; have aO : ¬ (a = []) := fun h_ => u (by rw [h_]; rfl)
      obtain ⟨i, K⟩ : ∃ j_ : Int, (Int.tmod (wrap64 ((wrap64 (b + 1)) - 1)) (a.length : Int)) = j_ := ⟨_, rfl⟩; replace H : (if 0 ≤ (i) then (if (i) < (a.length : Int) then (if 0 ≤ (Int.tmod (wrap64 ((wrap64 ((wrap64 ((wrap64 (b + 1)) - 1)) * 7)) + 3)) (a.length : Int)) then (if (Int.tmod (wrap64 ((wrap64 ((wrap64 ((wrap64 (b + 1)) - 1)) * 7)) + 3)) (a.length : Int)) < (a.length : Int) then (if c = 0 then (none) else (some (Int.tmod (Go.bits .xor .i64 (wrap64 ((wrap64 ((wrap64 ((wrap64 ((wrap64 (rd a (i))) * 131)) + (wrap64 ((wrap64 (rd a (Int.tmod (wrap64 ((wrap64 ((wrap64 ((wrap64 (b + 1)) - 1)) * 7)) + 3)) (a.length : Int)))) * 1117)))) + (wrap64 ((wrap64 ((wrap64 (b + 1)) - 1)) * 29)))) + (wrap64 ((wrap64 (Int.tdiv (wrap64 ((wrap64 (b + 1)) - 1)) (a.length : Int))) * 53)))) (wrap64 (Int.tdiv (wrap64 ((wrap64 ((wrap64 ((wrap64 ((wrap64 (rd a (i))) * 131)) + (wrap64 ((wrap64 (rd a (Int.tmod (wrap64 ((wrap64 ((wrap64 ((wrap64 (b + 1)) - 1)) * 7)) + 3)) (a.length : Int)))) * 1117)))) + (wrap64 ((wrap64 ((wrap64 (b + 1)) - 1)) * 29)))) + (wrap64 ((wrap64 (Int.tdiv (wrap64 ((wrap64 (b + 1)) - 1)) (a.length : Int))) * 53)))) 64))) c, (wrap64 (b + 1))))) else (none)) else (none)) else (none)) else (none)) = some (j, l) := by first | (rw [K] at H; exact H) | (simp only [K] at H ⊢; exact H)
      obtain ⟨aP, H⟩ := id_ H; obtain ⟨aQ, H⟩ := id_ H; obtain ⟨n, L⟩ : ∃ j_ : Int, (Int.tmod (wrap64 ((wrap64 ((wrap64 ((wrap64 (b + 1)) - 1)) * 7)) + 3)) (a.length : Int)) = j_ := ⟨_, rfl⟩; replace H : (if 0 ≤ (n) then (if (n) < (a.length : Int) then (if c = 0 then (none) else (some (Int.tmod (Go.bits .xor .i64 (wrap64 ((wrap64 ((wrap64 ((wrap64 ((wrap64 (rd a (i))) * 131)) + (wrap64 ((wrap64 (rd a (n))) * 1117)))) + (wrap64 ((wrap64 ((wrap64 (b + 1)) - 1)) * 29)))) + (wrap64 ((wrap64 (Int.tdiv (wrap64 ((wrap64 (b + 1)) - 1)) (a.length : Int))) * 53)))) (wrap64 (Int.tdiv (wrap64 ((wrap64 ((wrap64 ((wrap64 ((wrap64 (rd a (i))) * 131)) + (wrap64 ((wrap64 (rd a (n))) * 1117)))) + (wrap64 ((wrap64 ((wrap64 (b + 1)) - 1)) * 29)))) + (wrap64 ((wrap64 (Int.tdiv (wrap64 ((wrap64 (b + 1)) - 1)) (a.length : Int))) * 53)))) 64))) c, (wrap64 (b + 1))))) else (none)) else (none)) = some (j, l) := by first | (rw [L] at H; exact H) | (simp only [L] at H ⊢; exact H)
      obtain ⟨aR, H⟩ := id_ H; obtain ⟨aS, H⟩ := id_ H; by_cases D : c = 0
      ·rw [if_pos D] at H; exact absurd H (by simp)
      ·rw [if_neg D] at H; have aT : (c == 0) = false := beq_eq_false_iff_ne.mpr D; have aU : (c != 0) = true := bne_iff_ne.mpr D; simp only [Option.some.injEq, Prod.mk.injEq] at H; obtain ⟨rfl, rfl⟩ := H; obtain ⟨aV, aW, E, aq, Y⟩ := s.out; have aX := cellS105_0 E; have aY := cellS105_1 E; have aZ := blk_frozen E 1; clear E aq; have M : 0 ≤ ((i) : Int) := oa; have O : (i) < (a.length : Int) := oa; obtain ⟨ar, au, Z⟩ := Kd.at_int Y (i) M O; cases au; replace Z := pw_cell_below HB.out Z; obtain ⟨M, O⟩ := e2_ M O; have P : 0 ≤ ((n) : Int) := oa; have T : (n) < (a.length : Int) := oa; obtain ⟨av, aw, aa⟩ := Kd.at_int Y (n) P T; obtain rfl : ar = av := (by injection aw); replace aa := pw_cell_below HB.out aa; obtain ⟨P, T⟩ := e2_ P T; go_wp2
       repeat (go_quiet (fail); try go_wp2)
       go_ret
       exact ⟨by first | rfl | (simp [errW_none, errW_some] <;> rfl) | (simp only [← K, ← L]; first | rfl | (simp [errW_none, errW_some] <;> rfl)) | (simp [*, errW_none, errW_some] <;> rfl), IsS105.now, bn HB, kn HK⟩
end Go.Proofs.Ytffflhmblelegaa.F
