-- By oprint.py.
import Derived.Test.YtdlnnjgjfngccaaF0
namespace Go.Proofs.Ytdlnnjgjfngccaa.F
open Go.RowKit Go.Proofs.YtdlnnjgjfngccaaW.PrintWords Go.Proofs.YtdlnnjgjfngccaaW.PrintLast Go.Proofs.YtdlnnjgjfngccaaW.PrintMore
attribute [local go_sem] max2_int min2_int max_two min_two max_three min_three max_four min_four
set_option linter.unusedVariables false
set_option linter.unusedSimpArgs false

/-- A state of type 120 at block g of W; what its slices lead to came in by w0. -/
def IsS120 (w0 W : World) (g : Nat) (f0 : List Int) (f1 : Int) : Prop := ∃ A0 c0, W.heap[g]? = some (.cells #[.slice A0 f0.length c0, .int .i64 f1] 120 (0, 0)) ∧ w0.heap.size ≤ g ∧ Kd.C (Kd.int .u8) w0 A0 f0.length f0
theorem IsS120.grown {w0 W : World} {g : Nat} {f0 : List Int} {f1 : Int} {W1 : World} {row : Option Nat} (h : IsS120 w0 W g f0 f1) (hw : W.grownBy W1 row) (hne : some g ≠ row) : IsS120 w0 W1 g f0 f1 := by
 obtain ⟨A0, c0, hb, hg, hr0⟩ := h; exact ⟨A0, c0, blk_grown hb hw hne, hg, hr0⟩
theorem IsS120.own_neN {w0 W : World} {g : Nat} {f0 : List Int} {f1 : Int} {α : Type} {d : Kd α} {e : Nat} {base : Nat} {ok : Nat → Prop} {v : Value} {xs : List α} (h : IsS120 w0 W g f0 f1) (ho : Kd.N d e W base ok v xs) (ht : e ≠ 120) : some g ≠ v.ownBlock := by
 obtain ⟨A0, c0, hb, hg, hr0⟩ := h; exact Kd.N_ne ho hb ht
theorem IsS120.fresh {w0 W : World} {g : Nat} {f0 : List Int} {f1 : Int} (h : IsS120 w0 W g f0 f1) : ∀ k, W.heap.size ≤ k → k ≠ g := by
 obtain ⟨A0, c0, hb, hg, hr0⟩ := h; exact Kd.freshB hb
theorem IsS120.kept {w0 W : World} {g : Nat} {f0 : List Int} {f1 : Int} {W1 : World} {S : Nat → Prop} (h : IsS120 w0 W g f0 f1) (hk : Kept W W1 S) (hne : ¬ S g) : IsS120 w0 W1 g f0 f1 := by
 obtain ⟨A0, c0, hb, hg, hr0⟩ := h; exact ⟨A0, c0, blk_kept hb hk hne, hg, hr0⟩
theorem IsS120.below {w0 W : World} {g : Nat} {f0 : List Int} {f1 : Int} {W1 : World} (h : IsS120 w0 W g f0 f1) (hw : Below W.heap.size W W1) : IsS120 w0 W1 g f0 f1 := h.grown (grown_of_below hw none) (by simp)
theorem IsS120.alloc {w0 W : World} {g : Nat} {f0 : List Int} {f1 : Int} (h : IsS120 w0 W g f0 f1) (o : Obj) : IsS120 w0 (W.alloc o) g f0 f1 := h.below (below_alloc (Below.refl _ _) o)
theorem IsS120.drewN {w0 W : World} {g : Nat} {f0 : List Int} {f1 : Int} (h : IsS120 w0 W g f0 f1) (m : Nat) : IsS120 w0 (W.drewN m) g f0 f1 := h
theorem IsS120.drew {w0 W : World} {g : Nat} {f0 : List Int} {f1 : Int} (h : IsS120 w0 W g f0 f1) : IsS120 w0 W.drew g f0 f1 := h
theorem IsS120.at_ {w0 W : World} {g : Nat} {f0 : List Int} {f1 : Int} {w' : World} {m : Nat} (hq : W.drewN m = w') (h : IsS120 w0 W g f0 f1) : IsS120 w0 w' g f0 f1 := by subst hq; exact IsS120.drewN h m
theorem IsS120.apart {w0 W : World} {g : Nat} {f0 : List Int} {f1 : Int} {α : Type} {d : Kd α} {e : Nat} {base : Nat} {ok : Nat → Prop} {v : Value} {xs : List α} (h : IsS120 w0 W g f0 f1) (ho : d.R e W base ok v xs) (ht : ∀ q, q ∈ e :: d.E → q ≠ 120) : d.R e W base (fun k => ok k ∧ k ≠ g) v xs := by
 obtain ⟨A0, c0, hb, hg, hr0⟩ := h; exact Kd.R_types ho hb ht
theorem IsS120.own_ne {w0 W : World} {g : Nat} {f0 : List Int} {f1 : Int} {α : Type} {d : Kd α} {e : Nat} {base : Nat} {ok : Nat → Prop} {v : Value} {xs : List α} (h : IsS120 w0 W g f0 f1) (ho : d.R e W base ok v xs) (ht : e ≠ 120) : some g ≠ v.ownBlock := by
 obtain ⟨A0, c0, hb, hg, hr0⟩ := h; exact Kd.R_ne ho hb ht
theorem IsS120.apartQ {w0 W : World} {g : Nat} {f0 : List Int} {f1 : Int} {α : Type} {d : Kd α} {e : Nat} {base : Nat} {ok : Nat → Prop} {v : Value} {xs : List α} (h : IsS120 w0 W g f0 f1) (ho : d.Q e W base ok v xs) (ht : ∀ q, q ∈ e :: d.E → q ≠ 120) : d.Q e W base (fun k => ok k ∧ k ≠ g) v xs := by
 obtain ⟨A0, c0, hb, hg, hr0⟩ := h; exact Kd.Q_types ho hb ht
theorem IsS120.own_neQ {w0 W : World} {g : Nat} {f0 : List Int} {f1 : Int} {α : Type} {d : Kd α} {e : Nat} {base : Nat} {ok : Nat → Prop} {v : Value} {xs : List α} (h : IsS120 w0 W g f0 f1) (ho : d.Q e W base ok v xs) (ht : e ≠ 120) : some g ≠ v.ownBlock := by
 obtain ⟨A0, c0, hb, hg, hr0⟩ := h; exact Kd.Q_ne ho hb ht
theorem IsS120.apartS {w0 W : World} {g : Nat} {f0 : List Int} {f1 : Int} {α : Type} {d : Kd α} {e : Nat} {base : Nat} {ok : Nat → Prop} {v : Value} {xs : List α} (h : IsS120 w0 W g f0 f1) (ho : d.S e W base ok v xs) (ht : ∀ q, q ∈ e :: d.E → q ≠ 120) : d.S e W base (fun k => ok k ∧ k ≠ g) v xs := by
 obtain ⟨A0, c0, hb, hg, hr0⟩ := h; exact Kd.S_types ho hb ht
theorem IsS120.own_neS {w0 W : World} {g : Nat} {f0 : List Int} {f1 : Int} {α : Type} {d : Kd α} {e : Nat} {base : Nat} {ok : Nat → Prop} {v : Value} {xs : List α} (h : IsS120 w0 W g f0 f1) (ho : d.S e W base ok v xs) (ht : e ≠ 120) : some g ≠ v.ownBlock := by
 obtain ⟨A0, c0, hb, hg, hr0⟩ := h; exact Kd.S_ne ho hb ht
theorem IsS120.lt {w0 W : World} {g : Nat} {f0 : List Int} {f1 : Int} (h : IsS120 w0 W g f0 f1) : g < W.heap.size := by
 obtain ⟨A0, c0, hb, hg, hr0⟩ := h; exact blk_lt hb
theorem IsS120.ge {w0 W : World} {g : Nat} {f0 : List Int} {f1 : Int} (h : IsS120 w0 W g f0 f1) : w0.heap.size ≤ g := by
 obtain ⟨A0, c0, hb, hg, hr0⟩ := h; exact hg
theorem IsS120.ne_blk {w0 W : World} {g : Nat} {f0 : List Int} {f1 : Int} {a : Nat} {cs : Array Value} {t : TypeId} {fr : Nat × Nat} (h : IsS120 w0 W g f0 f1) (hb2 : W.heap[a]? = some (.cells cs t fr)) (ht : t ≠ 120) : g ≠ a := by
 obtain ⟨A0, c0, hb, hg, hr0⟩ := h; rintro rfl; rw [hb] at hb2; injection hb2 with hb2
 injection hb2 with _ ht2
 exact ht ht2.symm
theorem IsS120.far {w0 W : World} {g : Nat} {f0 : List Int} {f1 : Int} {p : Addr} (h : IsS120 w0 W g f0 f1) (hne : g ≠ p.block) (u : Value) : IsS120 w0 (W.setCell p u) g f0 f1 := by
 obtain ⟨A0, c0, hb, hg, hr0⟩ := h; exact ⟨A0, c0, blk_far hb hne u, hg, hr0⟩
theorem cellS120_0 {W : World} {g : Nat} {A0 : Option Addr} {c0 : Nat} {f0 : List Int} {f1 : Int} (h : W.heap[g]? = some (.cells #[.slice A0 f0.length c0, .int .i64 f1] 120 (0, 0))) : W.cell? ⟨g, 0, none⟩ = some (.slice A0 f0.length c0) := (blk_cell h 0).trans rfl
theorem cellS120_1 {W : World} {g : Nat} {A0 : Option Addr} {c0 : Nat} {f0 : List Int} {f1 : Int} (h : W.heap[g]? = some (.cells #[.slice A0 f0.length c0, .int .i64 f1] 120 (0, 0))) : W.cell? ⟨g, 1, none⟩ = some (.int .i64 f1) := (blk_cell h 1).trans rfl
theorem IsS120.set_1 {w0 W : World} {g : Nat} {f0 : List Int} {f1 : Int} (h : IsS120 w0 W g f0 f1) (x : Int) : IsS120 w0 (W.setCell ⟨g, 1, none⟩ (.int .i64 x)) g f0 x := by
 obtain ⟨A0, c0, hb, hg, hr0⟩ := h; exact ⟨A0, c0, by simpa using blk_set hb 1 (.int .i64 x), hg, hr0⟩
theorem IsS120.new (w0 W : World) (A0 : Option Addr) (c0 : Nat) (f0 : List Int) (f1 : Int) (hB : Below w0.heap.size w0 W) (hr0 : Kd.C (Kd.int .u8) w0 A0 f0.length f0) : IsS120 w0 (W.alloc (.cells #[.slice A0 f0.length c0, .int .i64 f1] 120)) W.heap.size f0 f1 := ⟨A0, c0, by simpa using heap_alloc_new W _, hB.size, hr0⟩
/-- as it now stands -/
theorem IsS120.now {w0 W : World} {g : Nat} {f0 : List Int} {f1 : Int} (h : IsS120 w0 W g f0 f1 := by repeat (first | (with_reducible first | exact Aside0.out (self := by assumption) | apply IsS120.alloc | apply IsS120.drewN | apply IsS120.drew | apply IsS120.set_1 | refine IsS120.far ?_ ao _) | exact Aside0.out (self := by assumption))) : IsS120 w0 W g f0 f1 := h

/-! ### spec_l6Rd_pick: function 126 -/
def spec_l6Rd_pick.j0 : Nat → Int → Bool → List Int → Int → Option (Int × Int)
 | 0, _, _, _, _ => none
 | k + 1, x1, x24, x1000, x1001 => if x24 = true then (some (0, x1001)) else (if (wrap64 (x1001 - 1)) < (x1000.length : Int) then (if 0 ≤ (wrap64 (x1001 - 1)) then (if x1 = 0 then (none) else (some (Int.tmod (wrap64 (rd x1000 (wrap64 (x1001 - 1)))) x1, x1001))) else (none)) else (if (x1000.length : Int) = 0 then (none) else (if 0 ≤ (Int.tmod (wrap64 (x1001 - 1)) (x1000.length : Int)) then (if (Int.tmod (wrap64 (x1001 - 1)) (x1000.length : Int)) < (x1000.length : Int) then (if 0 ≤ (Int.tmod (wrap64 ((wrap64 ((wrap64 (x1001 - 1)) * 7)) + 3)) (x1000.length : Int)) then (if (Int.tmod (wrap64 ((wrap64 ((wrap64 (x1001 - 1)) * 7)) + 3)) (x1000.length : Int)) < (x1000.length : Int) then (if x1 = 0 then (none) else (some (Int.tmod (Go.bits .xor .i64 (wrap64 ((wrap64 ((wrap64 ((wrap64 ((wrap64 (rd x1000 (Int.tmod (wrap64 (x1001 - 1)) (x1000.length : Int)))) * 131)) + (wrap64 ((wrap64 (rd x1000 (Int.tmod (wrap64 ((wrap64 ((wrap64 (x1001 - 1)) * 7)) + 3)) (x1000.length : Int)))) * 1117)))) + (wrap64 ((wrap64 (x1001 - 1)) * 29)))) + (wrap64 ((wrap64 (Int.tdiv (wrap64 (x1001 - 1)) (x1000.length : Int))) * 53)))) (wrap64 (Int.tdiv (wrap64 ((wrap64 ((wrap64 ((wrap64 ((wrap64 (rd x1000 (Int.tmod (wrap64 (x1001 - 1)) (x1000.length : Int)))) * 131)) + (wrap64 ((wrap64 (rd x1000 (Int.tmod (wrap64 ((wrap64 ((wrap64 (x1001 - 1)) * 7)) + 3)) (x1000.length : Int)))) * 1117)))) + (wrap64 ((wrap64 (x1001 - 1)) * 29)))) + (wrap64 ((wrap64 (Int.tdiv (wrap64 (x1001 - 1)) (x1000.length : Int))) * 53)))) 64))) x1, x1001))) else (none)) else (none)) else (none)) else (none))))
def spec_l6Rd_pick.f (k : Nat) (s0_0 : List Int) (s0_1 : Int) (a1 : Int) : Option (Int × Int) := if a1 < 1 then (spec_l6Rd_pick.j0 k a1 true s0_0 (wrap64 (s0_1 + 1))) else (spec_l6Rd_pick.j0 k a1 ((s0_0.length : Int) == 0) s0_0 (wrap64 (s0_1 + 1)))
theorem spec_l6Rd_pick.mono_l : ∀ k, (∀ a b c d, LeO (spec_l6Rd_pick.j0 k a b c d) (spec_l6Rd_pick.j0 (k + 1) a b c d))
 | 0 => fun _ _ _ _ r h => by simp [spec_l6Rd_pick.j0] at h
 | k + 1 => by
  have ih0 := spec_l6Rd_pick.mono_l k
  ·intro a b c d; unfold spec_l6Rd_pick.j0; exact mo_
theorem spec_l6Rd_pick.mono : ∀ a b c k, LeO (spec_l6Rd_pick.f k a b c) (spec_l6Rd_pick.f (k + 1) a b c) := by
 intro a b c k; have ih0 := spec_l6Rd_pick.mono_l k; unfold spec_l6Rd_pick.f; exact mo_
set_option maxHeartbeats 8000000 in
set_option maxRecDepth 100000 in
theorem spec_l6Rd_pick.calls (k : Nat) (g : Nat) (a : List Int) (b : Int) (c : Int) (j : Int) (l : Int) (d w : World) (hI : IsS120 d w g a b) (hB : Below d.heap.size d w) (h : spec_l6Rd_pick.f k a b c = some (j, l)) :
  Calls Try.prog 126 #[.pointer (some ⟨g, 0, none⟩), .int .i64 c] w fun e w' => e = .returned (.int .i64 j) ∧ IsS120 d w' g a l ∧ Below d.heap.size d w' ∧ KeepBut w w' g none := by
 have GEs_ := am (IsS120.ge hI); have s := am hI; have HK := am (KeepBut.refl w g none); have HL := am hB.size; clear hI; have HW0 := am hB.size; have HB := am hB; clear hB
 have H : (if c < 1 then (spec_l6Rd_pick.j0 k c true a (wrap64 (b + 1))) else (spec_l6Rd_pick.j0 k c ((a.length : Int) == 0) a (wrap64 (b + 1)))) = some (j, l) := h
 clear h; have I := am H; clear H; obtain ⟨ASz4_0, cSz4_0, x, ab, HSz4_0⟩ := s.out; have ad := cellS120_0 x; have ae := cellS120_1 x; have af := blk_frozen x 1; clear x ab; go_enter Try.func126, Try.ntmps126
 go_upto_region 2 with (fail)
 repeat (go_quiet (fail); go_upto_region 2 with (fail))
 go_cut [24] (fun ag wc => ∃ (kq : Nat) (y : Bool), ag = .bool y ∧ Aside0 (spec_l6Rd_pick.j0 kq c y a (wrap64 (b + 1)) = some (j, l)) ∧ Aside0 (kq ≤ k) ∧ Aside0 (IsS120 d wc g a (wrap64 (b + 1))) ∧ Aside0 (KeepBut w wc g none) ∧ Aside0 (Below d.heap.size d wc))
 case first =>
  have H := I.out; clear I; by_cases m : c < 1
  ·rw [if_pos m] at H; have o := decide_eq_true m; clear m; (first | rw [o] | (simp only [i64_w, i32_w]; rw [o]) | skip); have H' := am H; clear H; go_wp2
   repeat (go_quiet (fail); try go_wp2)
   go_meet
   case rel => exact ⟨_, (true), rs_, H', ⟨by first | omega | exact Nat.le_refl _⟩, ⟨IsS120.now⟩, ⟨kn HK⟩, ⟨bn HB⟩⟩
  ·rw [if_neg m] at H; have o := decide_eq_false m; clear m; (first | rw [o] | (simp only [i64_w, i32_w]; rw [o]) | skip); have H' := am H; clear H; obtain ⟨ASz6_0, cSz6_0, z, ah, HSz6_0⟩ := s.out; have ai := cellS120_0 z; have aj := cellS120_1 z; have ak := blk_frozen z 1; clear z ah; go_wp2
   repeat (go_quiet (fail); try go_wp2)
   go_meet
   case rel => exact ⟨_, (((a.length : Int) == 0)), rs_, H', ⟨by first | omega | exact Nat.le_refl _⟩, ⟨IsS120.now⟩, ⟨kn HK⟩, ⟨bn HB⟩⟩
 case rest =>
  clear I; (try clear c1); (try clear p2); (try clear m); (try clear o); (try clear p6); (try clear ad); (try clear ae); (try clear ai); (try clear aj); (try clear af); (try clear ak); obtain ⟨kq, y, rfl, HA, HJ2, s, HK, HB⟩ := hcut; cases kq with
  | zero => exact absurd HA.out (by simp [spec_l6Rd_pick.j0])
  | succ kj2 =>
   have H := HA.out; clear HA; simp only [spec_l6Rd_pick.j0] at H; by_cases A : y = true
   ·subst A; rw [if_pos rfl] at H; simp only [Option.some.injEq, Prod.mk.injEq] at H; obtain ⟨rfl, rfl⟩ := H; go_wp2
    repeat (go_quiet (fail); try go_wp2)
    go_ret
    exact ⟨er_, IsS120.now, bn HB, kn HK⟩
   ·replace A := Bool.eq_false_iff.mpr A; subst A; rw [if_neg (show ¬ (false = true) by decide)] at H; by_cases p : (wrap64 ((wrap64 (b + 1)) - 1)) < (a.length : Int)
    ·rw [if_pos p] at H; have W := decide_eq_true p; clear p; obtain ⟨q, t⟩ : ∃ j_ : Int, (wrap64 ((wrap64 (b + 1)) - 1)) = j_ := ⟨_, rfl⟩; replace H : (if 0 ≤ (q) then (if c = 0 then (none) else (some (Int.tmod (wrap64 (rd a (q))) c, (wrap64 (b + 1))))) else (none)) = some (j, l) := by first | (rw [t] at H; exact H) | (simp only [t] at H ⊢; exact H)
     (try rw [t] at W); have hji9w : (IntKind.i64.wrap ((wrap64 (b + 1)) - 1)) = q := (i64_w _).trans t; obtain ⟨c10b0, H⟩ := id_ H; by_cases B : c = 0
     ·rw [if_pos B] at H; exact absurd H (by simp)
     ·rw [if_neg B] at H; have c11b0 : (c == 0) = false := beq_eq_false_iff_ne.mpr B; have c11b1 : (c != 0) = true := bne_iff_ne.mpr B; simp only [Option.some.injEq, Prod.mk.injEq] at H; obtain ⟨rfl, rfl⟩ := H; obtain ⟨ASz12_0, cSz12_0, D, al, an⟩ := s.out; have hcz12_0 := cellS120_0 D; have hcz12_1 := cellS120_1 D; have hfz12_1 := blk_frozen D 1; clear D al; have J : 0 ≤ ((q) : Int) := oa; have K : (q) < (a.length : Int) := oa; obtain ⟨ad566, ap, X⟩ := Kd.at_int an (q) J K; cases ap; replace X := pw_cell_below HB.out X; replace J := eq_true J; replace K := eq_true K; go_wp2
      repeat (go_quiet (fail); try go_wp2)
      go_ret
      exact ⟨by first | rfl | (simp [errW_none, errW_some] <;> rfl) | (simp only [← t]; first | rfl | (simp [errW_none, errW_some] <;> rfl)) | (simp [*, errW_none, errW_some] <;> rfl), IsS120.now, bn HB, kn HK⟩
    ·rw [if_neg p] at H; have W := decide_eq_false p; clear p; by_cases u : (a.length : Int) = 0
     ·rw [if_pos u] at H; exact absurd H (by simp)
     ·rw [if_neg u] at H; have c13b0 : ((a.length : Int) == 0) = false := beq_eq_false_iff_ne.mpr u; have c13b1 : ((a.length : Int) != 0) = true := bne_iff_ne.mpr u; have c13b2 : ¬ (a = []) := fun h_ => u (by rw [h_]; rfl)
      obtain ⟨i, L⟩ : ∃ j_ : Int, (Int.tmod (wrap64 ((wrap64 (b + 1)) - 1)) (a.length : Int)) = j_ := ⟨_, rfl⟩; replace H : (if 0 ≤ (i) then (if (i) < (a.length : Int) then (if 0 ≤ (Int.tmod (wrap64 ((wrap64 ((wrap64 ((wrap64 (b + 1)) - 1)) * 7)) + 3)) (a.length : Int)) then (if (Int.tmod (wrap64 ((wrap64 ((wrap64 ((wrap64 (b + 1)) - 1)) * 7)) + 3)) (a.length : Int)) < (a.length : Int) then (if c = 0 then (none) else (some (Int.tmod (Go.bits .xor .i64 (wrap64 ((wrap64 ((wrap64 ((wrap64 ((wrap64 (rd a (i))) * 131)) + (wrap64 ((wrap64 (rd a (Int.tmod (wrap64 ((wrap64 ((wrap64 ((wrap64 (b + 1)) - 1)) * 7)) + 3)) (a.length : Int)))) * 1117)))) + (wrap64 ((wrap64 ((wrap64 (b + 1)) - 1)) * 29)))) + (wrap64 ((wrap64 (Int.tdiv (wrap64 ((wrap64 (b + 1)) - 1)) (a.length : Int))) * 53)))) (wrap64 (Int.tdiv (wrap64 ((wrap64 ((wrap64 ((wrap64 ((wrap64 (rd a (i))) * 131)) + (wrap64 ((wrap64 (rd a (Int.tmod (wrap64 ((wrap64 ((wrap64 ((wrap64 (b + 1)) - 1)) * 7)) + 3)) (a.length : Int)))) * 1117)))) + (wrap64 ((wrap64 ((wrap64 (b + 1)) - 1)) * 29)))) + (wrap64 ((wrap64 (Int.tdiv (wrap64 ((wrap64 (b + 1)) - 1)) (a.length : Int))) * 53)))) 64))) c, (wrap64 (b + 1))))) else (none)) else (none)) else (none)) else (none)) = some (j, l) := by first | (rw [L] at H; exact H) | (simp only [L] at H ⊢; exact H)
      obtain ⟨c15b0, H⟩ := id_ H; obtain ⟨c16b0, H⟩ := id_ H; obtain ⟨n, M⟩ : ∃ j_ : Int, (Int.tmod (wrap64 ((wrap64 ((wrap64 ((wrap64 (b + 1)) - 1)) * 7)) + 3)) (a.length : Int)) = j_ := ⟨_, rfl⟩; replace H : (if 0 ≤ (n) then (if (n) < (a.length : Int) then (if c = 0 then (none) else (some (Int.tmod (Go.bits .xor .i64 (wrap64 ((wrap64 ((wrap64 ((wrap64 ((wrap64 (rd a (i))) * 131)) + (wrap64 ((wrap64 (rd a (n))) * 1117)))) + (wrap64 ((wrap64 ((wrap64 (b + 1)) - 1)) * 29)))) + (wrap64 ((wrap64 (Int.tdiv (wrap64 ((wrap64 (b + 1)) - 1)) (a.length : Int))) * 53)))) (wrap64 (Int.tdiv (wrap64 ((wrap64 ((wrap64 ((wrap64 ((wrap64 (rd a (i))) * 131)) + (wrap64 ((wrap64 (rd a (n))) * 1117)))) + (wrap64 ((wrap64 ((wrap64 (b + 1)) - 1)) * 29)))) + (wrap64 ((wrap64 (Int.tdiv (wrap64 ((wrap64 (b + 1)) - 1)) (a.length : Int))) * 53)))) 64))) c, (wrap64 (b + 1))))) else (none)) else (none)) = some (j, l) := by first | (rw [M] at H; exact H) | (simp only [M] at H ⊢; exact H)
      obtain ⟨c18b0, H⟩ := id_ H; obtain ⟨c19b0, H⟩ := id_ H; by_cases E : c = 0
      ·rw [if_pos E] at H; exact absurd H (by simp)
      ·rw [if_neg E] at H; have c20b0 : (c == 0) = false := beq_eq_false_iff_ne.mpr E; have c20b1 : (c != 0) = true := bne_iff_ne.mpr E; simp only [Option.some.injEq, Prod.mk.injEq] at H; obtain ⟨rfl, rfl⟩ := H; obtain ⟨ASz21_0, cSz21_0, G, hgz21, Y⟩ := s.out; have hcz21_0 := cellS120_0 G; have hcz21_1 := cellS120_1 G; have hfz21_1 := blk_frozen G 1; clear G hgz21; have O : 0 ≤ ((i) : Int) := oa; have P : (i) < (a.length : Int) := oa; obtain ⟨ad567, e567, Z⟩ := Kd.at_int Y (i) O P; cases e567; replace Z := pw_cell_below HB.out Z; replace O := eq_true O; replace P := eq_true P; have T : 0 ≤ ((n) : Int) := oa; have U : (n) < (a.length : Int) := oa; obtain ⟨ad568, e568, aa⟩ := Kd.at_int Y (n) T U; obtain rfl : ad567 = ad568 := (by injection e568); replace aa := pw_cell_below HB.out aa; replace T := eq_true T; replace U := eq_true U; go_wp2
       repeat (go_quiet (fail); try go_wp2)
       go_ret
       exact ⟨by first | rfl | (simp [errW_none, errW_some] <;> rfl) | (simp only [← L, ← M]; first | rfl | (simp [errW_none, errW_some] <;> rfl)) | (simp [*, errW_none, errW_some] <;> rfl), IsS120.now, bn HB, kn HK⟩

end Go.Proofs.Ytdlnnjgjfngccaa.F
