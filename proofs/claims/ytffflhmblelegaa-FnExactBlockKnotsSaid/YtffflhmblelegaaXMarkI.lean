/-
The laws' markIntSS: numbers are written into each row of a row of rows whose rows lie apart.
-/
import Derived.Test.YtffflhmblelegaaF54
namespace Go.Proofs.Ytffflhmblelegaa.F
open Go.RowKit Go.Proofs.YtffflhmblelegaaW.PrintWords Go.Proofs.YtffflhmblelegaaW.PrintLast Go.Proofs.YtffflhmblelegaaW.PrintMore
attribute [local go_sem] max2_int min2_int max_two min_two max_three min_three max_four min_four
set_option linter.unusedVariables false
set_option linter.unusedSimpArgs false

/-- One row is lent: its cell, its blocks, and the whole with another row there. -/
theorem markInt_row {eo base : Nat} {W : World} {ok : Nat → Prop} {ad : Addr} {n cap : Nat} {xs : List (List Int)} (h : Kd.S (Kd.slice 3 (Kd.int .i64)) eo W base ok (.slice (some ad) n cap) xs) (i : Int) (h0 : 0 ≤ i) (h1 : i < n) :
    ∃ (oki : Nat → Prop) (v : Value), W.cell? (ad.add i.toNat) = some v ∧ Kd.R (Kd.int .i64) 3 W base oki v (rd_L2 xs i) ∧ (∀ k, oki k → ok k) ∧
      ∀ {w1 : World} {ys : List Int}, Kept W w1 oki → Kd.R (Kd.int .i64) 3 w1 base (fun k => oki k ∨ W.heap.size ≤ k) v ys → (∀ k, W.heap.size ≤ k → ok k) → Kd.S (Kd.slice 3 (Kd.int .i64)) eo w1 base ok (.slice (some ad) n cap) (xs.set i.toNat ys) := by
  obtain ⟨g, rfl⟩ := Kd.R_head (Kd.S_R h)
  obtain ⟨oki, c, hcl, hM, hcc, hoki, hH⟩ := Kd.S_lend h ([] : List Int) i h0 h1
  obtain ⟨v, rfl, hR⟩ := hM
  refine ⟨oki, v, ?_, hR, fun k hk => (hoki k hk).1, fun hk hR1 hnew => ?_⟩
  · have hq : W.cell? ⟨g, i.toNat * 1 + 0, none⟩ = some v := hcc 0 v rfl
    rw [add_at, Nat.zero_add]
    rwa [Nat.mul_one, Nat.add_zero] at hq
  · exact Kd.H_back (Kd.H_step (Kd.H_widen hH) (fun k _ hn hlt => hk.2 k hlt (fun ho => hn (Or.inl ho)))) (⟨v, rfl, hR1⟩ : (Kd.slice 3 (Kd.int .i64)).M _ base _ _ [v]) (fun k hk => hk.elim Or.inl (fun hge => Or.inr ⟨hnew k hge, hge⟩))
theorem markInt_in {k : Nat} {c W : World} {ok : Nat → Prop} {ad : Addr} {n cap : Nat} {xs : List (List Int)} {a b m : Int} {ys : List Int} {v : Value} (h : Kd.S (Kd.slice 3 (Kd.int .i64)) 30 W c.heap.size ok (.slice (some ad) n cap) xs) (h0 : 0 ≤ a) (h1 : a < n) (L : W.cell? (ad.add a.toNat) = some v)
    (hnew : ∀ k, W.heap.size ≤ k → ok k) (hB : Below c.heap.size c W) (D : laws_markIntS.f k (rd_L2 xs a) b = some (m, ys)) :
    Calls Try.prog 90 #[v, .int .i64 b] W fun e w' => e = .returned (.int .i64 m) ∧ Kd.S (Kd.slice 3 (Kd.int .i64)) 30 w' c.heap.size ok (.slice (some ad) n cap) (xs.set a.toNat ys) ∧ Below c.heap.size c w' ∧ ∃ oki : Nat → Prop, (∀ k, oki k → ok k) ∧ Kept W w' oki := by
  obtain ⟨oki, v', hc, hR, ho, hback⟩ := markInt_row h a h0 h1
  obtain rfl : v' = v := Option.some.inj (hc.symm.trans L)
  refine (laws_markIntS.calls k oki v' _ b m ys c W hB hR D).mono ?_
  rintro e w' ⟨he, hR1, hB1, hK⟩
  exact ⟨he, hback hK hR1 hnew, hB1, oki, ho, hK⟩

/-- What was made before and what was made now lie apart: by the world's size between them. -/
theorem markInt_split {α β : Type} {d : Kd α} {d' : Kd β} {e e' base : Nat} {W w1 : World} {okm okq : Nat → Prop} {u v Y : Value} {xs : List α} {ys : List β} {a b : Nat} {oa ob : Obj} (m : Kd.S d e W base okm u xs) (hb : Below W.heap.size W w1) (q : Kd.S d' e' w1 W.heap.size okq v ys)
    (hy : ∀ k, okm k → some k ≠ Y.ownBlock) (g : ∀ k, Y.ownBlock = some k → k < W.heap.size) (hW : base ≤ W.heap.size) (ha : W.heap[a]? = some oa) (hb' : W.heap[b]? = some ob) :
    ∃ N, a < N ∧ b < N ∧ (∀ k, Y.ownBlock = some k → k < N) ∧ Kd.S d e w1 base (fun k => k < N ∧ some k ≠ Y.ownBlock) u xs ∧ Kd.S d' e' w1 base (fun k => N ≤ k) v ys :=
  ⟨W.heap.size, blk_lt ha, blk_lt hb', g, Kd.S_mono (Kd.S_old m hb) (fun k hk => ⟨hk.2, hy k hk.1⟩), Kd.S_lower (Kd.S_mono (Kd.S_bound q) (fun _ hk => hk.2.1)) hW⟩

theorem markInt_args {f : FuncId} {args args' : Array Value} {w : World} {Q : Ending → World → Prop} (h : args = args') (hc : Calls Try.prog f args' w Q) : Calls Try.prog f args w Q := h ▸ hc

def laws_markIntSS.l0 : Nat → List (List Int) → Int → Int → Option (Int × List (List Int))
 | 0, _, _, _ => none
 | k + 1, x0, x1, x5 => if x5 < (x0.length : Int) then (if 0 ≤ x5 then ((laws_markIntS.f k (rd_L2 x0 x5) x1).bind fun t => (laws_markIntSS.l0 k (x0.set x5.toNat t.2) t.1 (wrap64 (x5 + 1)))) else (none)) else (some (x1, x0))
def laws_markIntSS.f (k : Nat) (l0 : List (List Int)) (a1 : Int) : Option (Int × List (List Int)) := laws_markIntSS.l0 k l0 a1 0
theorem laws_markIntSS.mono_l : ∀ k, (∀ a b c, LeO (laws_markIntSS.l0 k a b c) (laws_markIntSS.l0 (k + 1) a b c))
 | 0 => fun _ _ _ r h => by simp [laws_markIntSS.l0] at h
 | k + 1 => by
  have ih0 := laws_markIntSS.mono_l k
  intro a b c; unfold laws_markIntSS.l0; have m0_ := @laws_markIntS.mono; exact mo_
theorem laws_markIntSS.mono : ∀ a b k, LeO (laws_markIntSS.f k a b) (laws_markIntSS.f (k + 1) a b) := by
 intro a b k; have ih0 := laws_markIntSS.mono_l k; unfold laws_markIntSS.f; have m0_ := @laws_markIntS.mono; exact mo_
set_option maxHeartbeats 8000000 in
set_option maxRecDepth 100000 in
theorem laws_markIntSS.calls (k : Nat) (P : Nat → Prop) (v : Value) (l0 : List (List Int)) (m : Int) (r : Int) (r2 : List (List Int)) (c w : World) (hB : Below c.heap.size c w) (y : Kd.S (Kd.slice 3 (Kd.int .i64)) 30 w c.heap.size P v l0) (h : laws_markIntSS.f k l0 m = some (r, r2)) :
  Calls Try.prog 44 #[v, .int .i64 m] w fun e w' => e = .returned (.int .i64 r) ∧ Kd.S (Kd.slice 3 (Kd.int .i64)) 30 w' c.heap.size (fun k_ => (P k_ ∨ w.heap.size ≤ k_)) v r2 ∧ r2.length = l0.length ∧ Below c.heap.size c w' ∧ Kept w w' (fun k_ => P k_) := by
 have hS := am (show Kd.S (Kd.slice 3 (Kd.int .i64)) 30 w c.heap.size (fun k_ => (P k_ ∨ w.heap.size ≤ k_)) v l0 from Kd.S_mono y (fun k_ hk => (.inl hk))); have HK := am (Kept.refl w (fun k_ => P k_)); have HW0 := am hB.size; have HB := am hB; clear hB y
 have H : (laws_markIntSS.l0 k l0 m 0) = some (r, r2) := h
 clear h; have H' := am H; clear H; obtain ⟨A, cp, e_⟩ := Kd.S_slice hS.out; subst e_; go_enter Try.func44, Try.ntmps44; go_wp2
 go_loopg [1, 5] k (fun kq E G w' => ∃ (X : List (List Int)) (b : Int) (a : Int), E = .int .i64 b ∧ G = .int .i64 a ∧ Aside0 (laws_markIntSS.l0 kq X b a = some (r, r2)) ∧ Aside0 (kq ≤ k) ∧ Aside0 (X.length = l0.length) ∧ Aside0 (Kd.S (Kd.slice 3 (Kd.int .i64)) 30 w' c.heap.size (fun k_ => (P k_ ∨ w.heap.size ≤ k_)) (.slice A l0.length cp) X) ∧ Aside0 (Kept w w' (fun k_ => P k_)) ∧ Aside0 (Below c.heap.size c w'))
 case atStart => exact ⟨l0, m, 0, rs_, rs_, H', ⟨Nat.le_refl _⟩, ⟨rfl⟩, ⟨onS hS⟩, ⟨by repeat (first | (with_reducible first | exact HK.out | apply Kept.alloc | apply Kept.drewN | apply Kept.drew) | exact HK.out)⟩, ⟨bn HB⟩⟩
 case round =>
  clear H'; obtain ⟨X, b, a, rfl, rfl, HA, Z, hl, s, HK, HB⟩ := hrel; cases gk with
  | zero => exact absurd HA.out (by simp [laws_markIntSS.l0])
  | succ k1 =>
   have H := HA.out; clear HA; simp only [laws_markIntSS.l0] at H; rw [hl.out] at H; by_cases g : a < (l0.length : Int)
   ·rw [if_pos g] at H; have I := decide_eq_true g; clear g; obtain ⟨M, H⟩ := id_ H; obtain ⟨⟨n, ys⟩, D, H⟩ := bi_ H; (try dsimp only at H); have H' := am H; clear H; have c0 : 0 ≤ (a : Int) := oa; have d0 : a < (l0.length : Int) := oa; have d1 : a < ((X.length : Nat) : Int) := (by rw [hl.out]; exact d0); obtain ⟨K, o, p, q, L, j, l⟩ := at_L2 (Kd.S_reads' s.out).2.2 a c0 d1; cases q; clear j l d1; have C0 := am c0; have D0 := am d0; have LL := am L; obtain ⟨c, d⟩ := e2_ c0 d0
    go_wp2_with (first | ((with_reducible refine gate_callee (f := 90) rfl ?_); refine gl_ (some 17) Try.func90 #[.slice o (rd_L2 X a).length p, .int .i64 b] ?_; refine (markInt_in (k := k1) (onS s) C0.out D0.out ?z_1 ?z_2 ?z_3 D.out).mono ?_; (case z_1 => exact LL.out); (case z_2 => exact fun k_ hk_ => Or.inr (Nat.le_trans HK.out.1 hk_)); (case z_3 => exact bn HB); rintro e w7 ⟨rfl, s2, hb, oki, ho, hkp⟩; refine ⟨_, rfl, ?_⟩; replace s := am s2; replace HK := am (Kept.then_ (S := (fun k_ => P k_)) (by repeat (first | (with_reducible first | exact HK.out | apply Kept.alloc | apply Kept.drewN | apply Kept.drew) | exact HK.out)) hkp ho); replace HB := am hb; clear hb s2 hkp ho))
    go_roundg k1
    case measure => have := Z.out; omega
    case rel => exact ⟨(X.set (a : Int).toNat ys), n, (wrap64 (a + 1)), rs_, rs_, H', ⟨by have := Z.out; omega⟩, ⟨by rw [List.length_set]; exact hl.out⟩, ⟨onS s⟩, ⟨by repeat (first | (with_reducible first | exact HK.out | apply Kept.alloc | apply Kept.drewN | apply Kept.drew) | exact HK.out)⟩, ⟨bn HB⟩⟩
   ·rw [if_neg g] at H; have I := decide_eq_false g; clear g; simp only [Option.some.injEq, Prod.mk.injEq] at H; obtain ⟨rfl, rfl⟩ := H; go_wp2
    go_ret
    exact ⟨er_, onS s, hl.out, bn HB, by repeat (first | (with_reducible first | exact HK.out | apply Kept.alloc | apply Kept.drewN | apply Kept.drew) | exact HK.out)⟩
end Go.Proofs.Ytffflhmblelegaa.F
