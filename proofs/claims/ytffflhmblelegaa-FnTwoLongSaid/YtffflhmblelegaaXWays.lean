/-
impl.Net.ways: all ways that go on from one, written behind those that came in. What came in is one row of rows of numbers that is the caller's own (base world w); the way itself lies in blocks of another type (KT).
-/
import Derived.Test.YtffflhmblelegaaXClone
import Derived.Test.YtffflhmblelegaaF18
namespace Go.Proofs.Ytffflhmblelegaa.F
open Go.RowKit Go.Proofs.YtffflhmblelegaaW.PrintWords Go.Proofs.YtffflhmblelegaaW.PrintLast Go.Proofs.YtffflhmblelegaaW.PrintMore
attribute [local go_sem] max2_int min2_int max_two min_two max_three min_three max_four min_four
set_option linter.unusedVariables false
set_option linter.unusedSimpArgs false
/-- All blocks but those of rows of rows of numbers lie as they did. -/
def KT (w W : World) : Prop := w.heap.size ≤ W.heap.size ∧ ∀ k, k < w.heap.size → (∀ cells, w.heap[k]? ≠ some (.cells cells 30 (0, 0))) → W.heap[k]? = w.heap[k]?
theorem KT.refl (w : World) : KT w w := ⟨Nat.le_refl _, fun _ _ _ => rfl⟩
theorem KT.of_below {w W W1 : World} (h : KT w W) (hb : Below W.heap.size W W1) : KT w W1 := ⟨Nat.le_trans h.1 hb.size, fun k hk hn => (hb.block k (Nat.lt_of_lt_of_le hk h.1)).trans (h.2 k hk hn)⟩
instance ktA {w W : World} [h : Aside0 (KT w W)] (o : Obj) : Aside0 (KT w (W.alloc o)) := ⟨KT.of_below h.out (below_alloc (Below.refl _ _) o)⟩
instance ktN {w W : World} [h : Aside0 (KT w W)] (n : Nat) : Aside0 (KT w (W.drewN n)) := ⟨h.out⟩
instance ktD {w W : World} [h : Aside0 (KT w W)] : Aside0 (KT w W.drew) := ⟨h.out⟩
theorem knt {w W0 W : World} (_B : Aside0 (KT w W0)) [h : Aside0 (KT w W)] : KT w W := h.out
theorem ks {w W0 W W1 : World} (_B : Aside0 (KT w W0)) (hb : Below W.heap.size W W1) [h : Aside0 (KT w W)] : Aside0 (KT w W1) := ⟨KT.of_below h.out hb⟩
theorem kdr {w W : World} (h : Aside0 (KT w W)) : Aside0 (KT w W.drew) := ⟨h.out⟩
theorem kg {w W0 W W1 : World} {o : Option Nat} (_B : Aside0 (KT w W0)) (hg : W.grownBy W1 o) (ho : ∀ k, o = some k → ∃ cells, W.heap[k]? = some (.cells cells 30 (0, 0))) [h : Aside0 (KT w W)] : Aside0 (KT w W1) := by
  refine ⟨Nat.le_trans h.out.1 hg.size, fun k hk hn => ?_⟩
  refine (hg.block k (Nat.lt_of_lt_of_le hk h.out.1) ?_).trans (h.out.2 k hk hn)
  intro e
  obtain ⟨cells, hc⟩ := ho k e.symm
  exact hn cells (by rw [← h.out.2 k hk hn]; exact hc)
theorem kf {w W0 W W1 : World} {o : Option Nat} (_B : Aside0 (KT w W0)) (hg : W.grownBy W1 o) (ho : ∀ k, o = some k → w.heap.size ≤ k) [h : Aside0 (KT w W)] : Aside0 (KT w W1) := by
  refine ⟨Nat.le_trans h.out.1 hg.size, fun k hk hn => ?_⟩
  refine (hg.block k (Nat.lt_of_lt_of_le hk h.out.1) ?_).trans (h.out.2 k hk hn)
  intro e
  have := ho k e.symm
  omega
theorem kt {w W0 W W1 : World} (_B : Aside0 (KT w W0)) (h1 : KT W W1) [h : Aside0 (KT w W)] : Aside0 (KT w W1) := by
  refine ⟨Nat.le_trans h.out.1 h1.1, fun k hk hn => ?_⟩
  refine (h1.2 k (Nat.lt_of_lt_of_le hk h.out.1) (fun cells hc => hn cells ?_)).trans (h.out.2 k hk hn)
  rw [← h.out.2 k hk hn]; exact hc
theorem kbk {W0 W W1 : World} {g : Nat} {o' : Obj} {cs : Array Value} (_B : Bk W0 g o') (hk : KT W W1) [h : Bk W g (.cells cs 25 (0, 0))] : Bk W1 g (.cells cs 25 (0, 0)) :=
  ⟨(hk.2 g (blk_lt h.out) (fun cells hc => by rw [h.out] at hc; injection hc with hc; injection hc with _ hc _; exact absurd hc (by decide))).trans h.out⟩
theorem own_or {v v1 : Value} {n : Nat} (h : ∃ k, v.ownBlock = some k) (ha : v1.ownBlock = v.ownBlock ∨ ∃ b, v1.ownBlock = some b ∧ n ≤ b) : ∃ k, v1.ownBlock = some k := by
  rcases ha with e | ⟨b, e, _⟩
  · rw [e]; exact h
  · exact ⟨b, e⟩
theorem krow {W W1 : World} {base n c : Nat} {ok : Nat → Prop} {A : Option Addr} {xs : List Int} (h : Kd.R (Kd.int .i64) 3 W base ok (.slice A n c) xs) (hk : KT W W1) : Kd.C (Kd.int .i64) W1 A xs.length xs := by
  have h1 := Kd.R_step (w1 := W1) (Kd.R_tight rfl h) (fun k hk1 hk2 => by
    obtain ⟨cells, hc⟩ := Kd.R_typed h k hk1.symm
    exact hk.2 k hk2 (fun cells' hc' => by rw [hc] at hc'; injection hc' with hc'; injection hc' with _ hc' _; exact absurd hc' (by decide)))
  exact (Kd.R_reads' h1).2.2
/-! ### impl_Net_ways -/
mutual
def impl_Net_ways.l0 : Nat → List Int → Int → List (List Int) → Int → Int → Int → Int → List (S52) → Option ((List (List Int)))
 | 0, _, _, _, _, _, _, _, _ => none
 | k + 1, x1, x2, x3, x9, x26, x27, x427000, x427001 => if x27 < x26 then ((impl_Net_has.f k x427000 x427001 x9 x27).bind fun t434 => (if t434 = true then ((slices_Contains_int_int.f k x1 x27).bind fun t435 => (impl_Net_ways.j1 k x1 x2 x3 x9 x27 x26 x27 (!t435) x427000 x427001)) else (impl_Net_ways.j1 k x1 x2 x3 x9 x27 x26 x27 false x427000 x427001))) else (some x3)
def impl_Net_ways.j1 : Nat → List Int → Int → List (List Int) → Int → Int → Int → Int → Bool → Int → List (S52) → Option ((List (List Int)))
 | 0, _, _, _, _, _, _, _, _, _, _ => none
 | k + 1, x1, x2, x3, x9, x10, x26, x27, x39, x427000, x427001 => if x39 = true then ((slices_Clone_int_int.f x1).bind fun t436 => ((some (([x10] : List Int) : List Int)).bind fun y439 => (if t436.length + y439.length < 17592186044416 then ((impl_Net_ways.f k x427000 x427001 (t436 ++ y439) x2 x3).bind fun t445 => (impl_Net_ways.l0 k x1 x2 t445 x9 x26 (wrap64 (x27 + 1)) x427000 x427001)) else (none)))) else (impl_Net_ways.l0 k x1 x2 x3 x9 x26 (wrap64 (x27 + 1)) x427000 x427001)
def impl_Net_ways.f : Nat → Int → List (S52) → List Int → Int → List (List Int) → Option ((List (List Int)))
 | 0, _, _, _, _, _ => none
 | k + 1, a0_0, l0_1, l1, a2, y423 => if 0 ≤ (wrap64 ((l1.length : Int) - 1)) then (if (wrap64 ((l1.length : Int) - 1)) < (l1.length : Int) then (if (rd l1 (wrap64 ((l1.length : Int) - 1))) = a2 then ((slices_Clone_int_int.f l1).bind fun t428 => (if y423.length < 5864062014805 then (some (y423 ++ [t428])) else (none))) else (impl_Net_ways.l0 k l1 a2 y423 (rd l1 (wrap64 ((l1.length : Int) - 1))) a0_0 0 a0_0 l0_1)) else (none)) else (none)
end
def impl_Net_ways.T8 : Bool × List (List Nat × List Nat) := (true, [([], []), ([], []), ([1], [1]), ([], []), ([3], [3]), ([2, 4, 2], [2, 4]), ([], []), ([], []), ([0, 5, 6, 7, 5], [0, 5, 6, 7]), ([8, 8, 0, 1, 2, 3, 4, 5, 6, 7, 8], [7, 8])])
def impl_Net_ways.B8 : List Nat := [0, 0, 2, 0, 8, 30, 0, 0, 255, 511]
theorem impl_Net_ways.tab8 : rtab .any (opsOf Try.f116 8) = impl_Net_ways.T8 := by kernel_rfl
theorem impl_Net_ways.bits8 : waitsOk impl_Net_ways.T8.2 impl_Net_ways.B8 = true := by kernel_rfl
set_option maxHeartbeats 8000000 in
set_option maxRecDepth 100000 in
theorem impl_Net_ways.calls (k : Nat) : ∀ (d : Int) (s : Option Addr) (t : Nat) (l : List (S52)) (A1 : Option Addr) (T : Nat) (a : List Int) (o : Int) (ay : Value) (u : List (List Int)) (r : List (List Int)) (w wE : World) (hB : Below w.heap.size w wE) (aE : Kd.C k52 w s l.length l) (aG : l.length ≤ t) (hW : ∀ W_, KT wE W_ → Kd.C (Kd.int .i64) W_ A1 a.length a) (aI : a.length ≤ T) (hx : Kd.S (Kd.slice 3 (Kd.int .i64)) 30 wE w.heap.size (fun _ => True) ay u) (hO : ∃ k_, ay.ownBlock = some k_) (h : impl_Net_ways.f k d l a o u = some r),
  Calls Try.prog 116 #[.agg #[.int .i64 d, .slice s l.length t], .slice A1 a.length T, .int .i64 o, ay] wE fun e w' => ∃ a2 : Value, e = .returned (a2) ∧ Kd.S (Kd.slice 3 (Kd.int .i64)) 30 w' w.heap.size (fun _ => True) a2 r ∧ Below w.heap.size w w' ∧ KT wE w' ∧ ∃ k_, a2.ownBlock = some k_ := by
 induction k using Nat.strongRecOn with
 | _ k ih =>
 intro d s t l A1 T a o ay u r w wE hB aE aG hW aI hx hO h; cases k with
 | zero => exact absurd h (by simp [impl_Net_ways.f])
 | succ k =>
 simp only [impl_Net_ways.f] at h; have bP := Try.underlying25; have aJ := am aE; have aK := am aG; clear aE aG; have aw := am aI; clear aI; have x := am hx; clear hx; have HB := am hB; clear hB; have HK := am (KT.refl wE)
 have H : (if 0 ≤ (wrap64 ((a.length : Int) - 1)) then (if (wrap64 ((a.length : Int) - 1)) < (a.length : Int) then (if (rd a (wrap64 ((a.length : Int) - 1))) = o then ((slices_Clone_int_int.f a).bind fun z => (if u.length < 5864062014805 then (some (u ++ [z])) else (none))) else (impl_Net_ways.l0 k a o u (rd a (wrap64 ((a.length : Int) - 1))) d 0 d l)) else (none)) else (none)) = some r := h; clear h; obtain ⟨m, aa⟩ : ∃ j_ : Int, (wrap64 ((a.length : Int) - 1)) = j_ := ⟨_, rfl⟩; replace H : (if 0 ≤ (m) then (if (m) < (a.length : Int) then (if (rd a (m)) = o then ((slices_Clone_int_int.f a).bind fun z => (if u.length < 5864062014805 then (some (u ++ [z])) else (none))) else (impl_Net_ways.l0 k a o u (rd a (m)) d 0 d l)) else (none)) else (none)) = some r := by first | (rw [aa] at H; exact H) | (simp only [aa] at H ⊢; exact H)
 have hji4w : (IntKind.i64.wrap ((a.length : Int) - 1)) = m := (i64_w _).trans aa; obtain ⟨a3, H⟩ := id_ H; obtain ⟨a4, H⟩ := id_ H; by_cases J : (rd a (m)) = o
 ·rw [if_pos J] at H; have aN : ((rd a (m)) == o) = true := beq_iff_eq.mpr J; have aQ : ((rd a (m)) != o) = false := bne_eq_false_iff_eq.mpr J; clear J; obtain ⟨z, A8, H⟩ := bi_ H; obtain ⟨c9, H⟩ := ig_ H; have bu := am c9; clear c9; obtain ⟨bv, aT⟩ : ∃ y_ : List (List Int), y_ = (u ++ [z]) := ⟨_, rfl⟩; replace H : (some bv) = some r := nh_ aT H; have bw := am aT; clear aT; obtain rfl := Option.some.inj H; go_enter Try.func116, Try.ntmps116
  go_wp2_with (first | ((with_reducible refine gate_dst (N := 4) rfl ?_); refine bx_ 4 #[.int .i64 d, .slice s l.length t] 25 HB ?_; clear HB; intro L hg w12 hb c bx HB; replace HK := ks HK hb; replace x := am (Kd.S_below (onS x) hb); clear hb hg; have O : 0 ≤ ((m) : Int) := oa; have P : (m) < (a.length : Int) := oa; obtain ⟨az, aU, ae⟩ := Kd.at_int (hW _ HK.out) (m) O P; cases aU; obtain ⟨O, P⟩ := e2_ O P) | ((with_reducible refine gate_callee (f := 86) rfl ?_); refine gl_ (some 22) Try.func86 #[.slice (some az) a.length T] ?_; (with_reducible refine (slices_Clone_int_int.calls _ _ a z _ ?z_1 ?z_2 A8.out).mono ?_); (case z_1 => exact hW _ (knt HK)); (case z_2 => exact aw.out); rintro e w13 ⟨bQ, rfl, p, hb⟩; refine ⟨_, rfl, ?_⟩; replace x := am (Kd.S_elder' (onS x) (Kd.R_base p) hb); have aA := am (Kd.R_lower p (below_size (bn HB))); replace c := bb c hb; replace HB := bs HB hb; replace HK := ks HK hb; (try clear hb p); obtain ⟨a5, a6, bz⟩ := Kd.R_slice aA.out; subst bz) | ((with_reducible refine gate_builtin (b := .append) (xs := #[.tmp 20, .tmp 23]) rfl ?_); at_builtin; refine Kd.S_append (Kd.slice 3 (Kd.int .i64)) (w0 := w) w.heap.size rfl (.tmp 20) (.tmp 23) 26 30 (.slice none 0 0) 24 rfl Try.underlying26 info30 rfl (by decide) (by omega) ay u z [.slice a5 z.length a6] (fun _ => True) (fun k_ => some k_ = (.slice a5 z.length a6 : Value).ownBlock) rfl rfl ?aP (fun k_ hk_ => ((Kd.R_mono (ok' := fun k_ => ((fun _ => True)) k_ ∧ some k_ ≠ (ay : Value).ownBlock) (Kd.R_apart' (aA.out) (Kd.S_typed x.out) (by decide)) (fun k_ hk => ⟨trivial, hk.2⟩))).1 k_ hk_.symm) ?aF ?aO ?aB ?aS ?aL ?_; (case aP => exact Kd.M_row (Kd.R_mono (Kd.R_tight rfl (Kd.R_mono (ok' := fun k_ => ((fun _ => True)) k_ ∧ some k_ ≠ (ay : Value).ownBlock) (Kd.R_apart' (aA.out) (Kd.S_typed x.out) (by decide)) (fun k_ hk => ⟨trivial, hk.2⟩))) (fun _ h_ => h_))); (case aB => exact (bn HB)); (case aF => exact (fun _ _ => trivial)); (case aO => exact (Kd.S_mono (onS x) (fun k_ hk => ⟨trivial, fun e_ => hk.2 e_⟩))); (case aS => exact (below_size (bn HB))); (case aL => have := bu.out; omega); intro bR w14 ho hb hg ar; rw [← bw.out] at ho; replace c := bm (blk_grown (bkn c) hg (Kd.S_ne x.out c.out (by decide))); replace HB := am hb; replace HK := kg HK hg (Kd.S_typed x.out); replace hO := own_or hO ar; have bA := am ho; clear x aA; clear ho hb hg ar))
  go_ret
  exact ⟨_, by first | rfl | (simp [errW_none, errW_some] <;> rfl) | (simp only [← aa]; first | rfl | (simp [errW_none, errW_some] <;> rfl)) | (simp [*, errW_none, errW_some] <;> rfl), onS bA, bn HB, knt HK, hO⟩
 ·rw [if_neg J] at H; have aN : ((rd a (m)) == o) = false := beq_eq_false_iff_ne.mpr J; have aQ : ((rd a (m)) != o) = true := bne_iff_ne.mpr J; have H' := am H; clear H; go_enter Try.func116, Try.ntmps116
  go_wp2_with (first | ((with_reducible refine gate_dst (N := 4) rfl ?_); refine bx_ 4 #[.int .i64 d, .slice s l.length t] 25 HB ?_; clear HB; intro L hg w18 hb c bx HB; replace HK := ks HK hb; replace x := am (Kd.S_below (onS x) hb); clear hb hg; have O : 0 ≤ ((m) : Int) := oa; have P : (m) < (a.length : Int) := oa; obtain ⟨az, aU, ae⟩ := Kd.at_int (hW _ HK.out) (m) O P; cases aU; obtain ⟨O, P⟩ := e2_ O P; have a7 := c2 c))
  go_loopg [3, 27] k (fun kq v3 bB w' => ∃ (U : List (List Int)) (n : Int), bB = .int .i64 n ∧ Aside0 (impl_Net_ways.l0 kq a o U (rd a (m)) d n d l = some r) ∧ Aside0 (kq ≤ k) ∧ Aside0 (Kd.S (Kd.slice 3 (Kd.int .i64)) 30 w' w.heap.size (fun _ => True) v3 U) ∧ Bk w' L (.cells #[.int .i64 d, (.slice s l.length t)] 25 (0, 0)) ∧ Aside0 (Below w.heap.size w w') ∧ Aside0 (KT wE w') ∧ ∃ k_, (v3 : Value).ownBlock = some k_)
  case atStart => exact ⟨(u), (0), rs_, H', ⟨Nat.le_refl _⟩, ⟨onS x⟩, ⟨bkn c⟩, ⟨bn HB⟩, ⟨knt HK⟩, hO⟩
  case round =>
   clear H'; (try clear T a3 a4 J aN aQ c9 a7 ae O P); obtain ⟨U, n, rfl, HA, af, g, c, HB, HK, hO⟩ := hrel; cases gk with
   | zero => exact absurd HA.out (by simp [impl_Net_ways.l0])
   | succ k1 =>
    have H := HA.out; clear HA; simp only [impl_Net_ways.l0] at H; by_cases ag : n < d
    ·rw [if_pos ag] at H; have a8 := decide_eq_true ag; clear ag; have aV := am H; clear H
     go_upto_region 7 with (fail)
     go_cut [39] (fun bC wc => ∃ (kq : Nat) (aC : Bool), bC = .bool aC ∧ Aside0 (impl_Net_ways.j1 kq a o U (rd a (m)) n d n aC d l = some r) ∧ Aside0 (kq ≤ k1) ∧ Aside0 (Kd.S (Kd.slice 3 (Kd.int .i64)) 30 wc w.heap.size (fun _ => True) u3 U) ∧ Bk wc L (.cells #[.int .i64 d, (.slice s l.length t)] 25 (0, 0)) ∧ Aside0 (Below w.heap.size w wc) ∧ Aside0 (KT wE wc))
     case first =>
      have H := aV.out; clear aV; obtain ⟨bD, a9, H⟩ := bi_ H; by_cases aW : bD = true
      ·subst aW; rw [if_pos rfl] at H; obtain ⟨ba, bE, H⟩ := bi_ H; have H' := am H; clear H; have bF := c2 c
       go_wp2_with (first | ((with_reducible refine gate_callee (f := 81) rfl ?_); refine goesL_ (some 33) rfl rfl Try.func81 (by kernel_rfl) rfl #[.agg #[.int .i64 d, .slice s l.length t], .int .i64 (rd a (m)), .int .i64 n] rfl (by (try simp only [List.map_toArray, List.map_cons, List.map_nil]); first | done | (simp only [aa]; rfl) | rfl | (simp only [List.length_drop, List.length_take]; rfl)) ?_; (with_reducible refine (impl_Net_has.calls k1 d _ _ l (rd a (m)) n true _ ?z_1 ?z_2 a9.out).mono ?_); (case z_1 => exact cb aJ HB); (case z_2 => exact aK.out); rintro e w26 ⟨rfl, hb⟩; refine ⟨_, rfl, ?_⟩; replace g := am (Kd.S_below (onS g) hb); replace c := bb c hb; replace HB := bs HB hb; replace HK := ks HK hb; (try clear hb)) | (go_at_call 111; (with_reducible refine (slices_Contains_int_int.calls k1 _ _ a n ba _ ?z_1 ?z_2 bE.out).mono ?_); (case z_1 => exact hW _ (knt HK)); (case z_2 => exact aw.out); rintro e w' ⟨rfl, ⟨nd, rfl⟩⟩))
       go_meet
       case rel => exact ⟨_, (!ba), rs_, H', ⟨by have := af.out; first | omega | exact Nat.le_refl _⟩, ⟨onS g⟩, ⟨bkn c⟩, ⟨bn HB⟩, ⟨knt HK⟩⟩
      ·obtain rfl := nt_ aW; rw [if_neg nf_] at H; have H' := am H; clear H; have bG := c2 c
       go_wp2_with (first | ((with_reducible refine gate_callee (f := 81) rfl ?_); refine goesL_ (some 33) rfl rfl Try.func81 (by kernel_rfl) rfl #[.agg #[.int .i64 d, .slice s l.length t], .int .i64 (rd a (m)), .int .i64 n] rfl (by (try simp only [List.map_toArray, List.map_cons, List.map_nil]); first | done | (simp only [aa]; rfl) | rfl | (simp only [List.length_drop, List.length_take]; rfl)) ?_; (with_reducible refine (impl_Net_has.calls k1 d _ _ l (rd a (m)) n false _ ?z_1 ?z_2 a9.out).mono ?_); (case z_1 => exact cb aJ HB); (case z_2 => exact aK.out); rintro e w28 ⟨rfl, hb⟩; refine ⟨_, rfl, ?_⟩; replace g := am (Kd.S_below (onS g) hb); replace c := bb c hb; replace HB := bs HB hb; replace HK := ks HK hb; (try clear hb)))
       go_meet
       case rel => exact ⟨_, (false), rs_, H', ⟨by have := af.out; first | omega | exact Nat.le_refl _⟩, ⟨onS g⟩, ⟨bkn c⟩, ⟨bn HB⟩, ⟨knt HK⟩⟩
     case rest =>
      clear aV; (try clear T c2 a3 a4 J aN aQ c9 ag a8 aW a7 bF bG ae O P); obtain ⟨kq, aC, rfl, HA, av, g, c, HB, HK⟩ := hcut; cases kq with
      | zero => exact absurd HA.out (by simp [impl_Net_ways.j1])
      | succ kj20 =>
       have H := HA.out; clear HA; simp only [impl_Net_ways.j1] at H; by_cases bd : aC = true
       ·subst bd; rw [if_pos rfl] at H; obtain ⟨W, be, H⟩ := bi_ H; obtain ⟨X, aX⟩ : ∃ y_ : List Int, y_ = (([n] : List Int)) := ⟨_, rfl⟩; replace H : (if W.length + X.length < 17592186044416 then ((impl_Net_ways.f kj20 d l (W ++ X) o U).bind fun al => (impl_Net_ways.l0 kj20 a o al (rd a (m)) d (wrap64 (n + 1)) d l)) else (none)) = some r := nh_ aX H; have aD := am aX; clear aX; obtain ⟨bf, H⟩ := ig_ H; have bH := am bf; clear bf; obtain ⟨aY, aZ⟩ : ∃ y_ : List Int, y_ = (W ++ X) := ⟨_, rfl⟩; replace H : ((impl_Net_ways.f kj20 d l aY o U).bind fun al => (impl_Net_ways.l0 kj20 a o al (rd a (m)) d (wrap64 (n + 1)) d l)) = some r := nh_ aZ H; have bI := am aZ; clear aZ; obtain ⟨al, bJ, H⟩ := bi_ H; have H' := am H; clear H; try go_wp2
        replace g := dS g; replace c := dB c; replace HB := dL HB; replace HK := kdr HK; refine s2_ 10 [] (bq c 0) (bq c 1) (fun A => ?_); refine with_tabW impl_Net_ways.tab8 impl_Net_ways.bits8 (fun y bK => ?_); generalize wc.drew = w33 at g c HB HK A ⊢; refine pz_ 1 y ?_; refine pz_ 3 y ?_; refine pz_ 6 y ?_; refine pz_ 7 y ?_; refine tz_ 0 y bK A ?_; refine join_ (σ := Value × Value) 3 #[true, true, true, true, true, false, true, true, false, false] (fun s_ => [(42, s_.1), (44, s_.2)]) (fun s_ w' => (w'.cell? ⟨L, 0, none⟩ = some (.int .i64 d) ∧ w'.cell? ⟨L, 1, none⟩ = some (.slice s l.length t)) ∧ (Kd.R (Kd.int .i64) 3 w' w.heap.size (fun k_ => some k_ ≠ (s_.2 : Value).ownBlock) s_.1 W) ∧ (Kd.R (Kd.int .i64) 3 w' w.heap.size (fun k_ => some k_ ≠ (s_.1 : Value).ownBlock) s_.2 X) ∧ (Kd.S (Kd.slice 3 (Kd.int .i64)) 30 w' w.heap.size (fun k_ => some k_ ≠ (s_.1 : Value).ownBlock ∧ some k_ ≠ (s_.2 : Value).ownBlock) u3 U) ∧ (w'.heap[L]? = some (.cells #[.int .i64 d, .slice s l.length t] 25 (0, 0))) ∧ (Below w.heap.size w w') ∧ KT wE w' ∧ (∀ k_, (s_.1 : Value).ownBlock = some k_ → wE.heap.size ≤ k_)) ?_ ?_
        rotate_left
        ·intro hCont; refine two_ (i := 2) (j := 4) (Ni := some 42) (Nj := some 44) #[true, true, true, true, false, false, true, true, false, false] #[true, true, false, true, true, false, true, true, false, false] rfl rfl rfl rfl (two_of y.out (by kernel_rfl)) (by decide) (by decide) (fun K hK => ?_) (fun K hK => ?_)
         ·skip
          refine gg_ Try.func86 #[.slice (some az) a.length T] ?_
          with_reducible refine (slices_Clone_int_int.calls _ _ a W _ ?z_1 ?z_2 be.out).mono ?_
          (case z_1 => exact hW _ (knt HK)); (case z_2 => exact aw.out); rintro e bL ⟨Y, rfl, p, hb⟩; refine ⟨_, rfl, ?_⟩; have hY := fun k_ hk_ => Nat.le_trans (knt HK).1 (Kd.R_base p k_ hk_); replace g := am (Kd.S_elder' (onS g) (Kd.R_base p) hb); have B := am (Kd.R_lower p (below_size (bn HB))); replace c := bb c hb; replace HB := bs HB hb; replace HK := ks HK hb; (try clear hb hk p); refine hK.out _ _ ⟨(bc c 0), (bc c 1)⟩ (fun A => ?_); clear hK K; refine nz_ 42 ?_; refine on_ 4 y (fun K hK => ?_); refine Kd.R_lit_step (Kd.int .i64) _ 3 ?hg (N := 44) ?hd (xs := ([n] : List Int)) (inner := [.int .i64 n]) (ok := fun _ => True) (okp := fun _ => True) ?hr ?hp (fun _ hk => hk) trivial (Below.refl _ _) (Nat.le_refl _) (by simp) ?_; (case hd => rfl); (case hg => rfl); (case hr => first | (go_simp; done) | (go_simp; rfl)); (case hp => exact (Reps.one (show Kd.M (Kd.int .i64) _ _ _ n [.int .i64 n] from rfl) (Reps.none _ _))); intro ah w35 ai hb ab ad; clear ab ad; (first | rw [← aD.out] at ai | (simp only [Int.reduceToNat] at ai; rw [← aD.out] at ai)); have D := am (Kd.S_elder' (onS g) (Kd.R_base ai) hb); have E := am (Kd.R_elder' (onR B) (Kd.R_base ai) hb); have G := am (Kd.R_lower (Kd.R_new' ai (Kd.R_lt (onR B))) (below_size (bn HB))); have I := bb c hb; have Z := bs HB hb; replace HK := ks HK hb; clear g B c HB; have g := D; have B := E; have q := G; have c := I; have HB := Z; clear D E G I Z hb ai; refine hK.out _ _ ⟨(bc c 0), (bc c 1)⟩ (fun A => ?_); clear hK K; refine nz_ 44 ?_; exact norm_ (by simp only [putAll, Act.put, List.setIfInBounds_toArray, List.set_cons_zero, List.set_cons_succ]) (hCont (Y, ah) _ ⟨A, (Kd.R_mono (onR B) (fun _ hk => hk.2)), (Kd.R_mono (onR q) (fun _ hk => hk.2)), (Kd.S_mono (onS g) (fun _ hk => ⟨hk.1.2, hk.2⟩)), (bkn c), (bn HB), HK.out, hY⟩)
         ·skip
          refine Kd.R_lit_step (Kd.int .i64) _ 3 ?hg (N := 44) ?hd (xs := ([n] : List Int)) (inner := [.int .i64 n]) (ok := fun _ => True) (okp := fun _ => True) ?hr ?hp (fun _ hk => hk) trivial (Below.refl _ _) (Nat.le_refl _) (by simp) ?_; (case hd => rfl); (case hg => rfl); (case hr => first | (go_simp; done) | (go_simp; rfl)); (case hp => exact (Reps.one (show Kd.M (Kd.int .i64) _ _ _ n [.int .i64 n] from rfl) (Reps.none _ _))); intro ah bL an hb ab ad; clear ab ad; (first | rw [← aD.out] at an | (simp only [Int.reduceToNat] at an; rw [← aD.out] at an)); have D := am (Kd.S_elder' (onS g) (Kd.R_base an) hb); have E := am (Kd.R_lower an (below_size (bn HB))); have G := bb c hb; have I := bs HB hb; replace HK := ks HK hb; clear g c HB; have g := D; have q := E; have c := G; have HB := I; clear D E G I hb an; refine hK.out _ _ ⟨(bc c 0), (bc c 1)⟩ (fun A => ?_); clear hK K; refine nz_ 44 ?_; refine on_ 2 y (fun K hK => ?_); refine gg_ Try.func86 #[.slice (some az) a.length T] ?_
          with_reducible refine (slices_Clone_int_int.calls _ _ a W _ ?z_1 ?z_2 be.out).mono ?_
          (case z_1 => exact hW _ (knt HK)); (case z_2 => exact aw.out); rintro e w36 ⟨Y, rfl, p, hb⟩; refine ⟨_, rfl, ?_⟩; have hY := fun k_ hk_ => Nat.le_trans (knt HK).1 (Kd.R_base p k_ hk_); replace g := am (Kd.S_elder' (onS g) (Kd.R_base p) hb); have B := am (Kd.R_lower (Kd.R_new' p (Kd.R_lt (onR q))) (below_size (bn HB))); replace q := am (Kd.R_elder' (onR q) (Kd.R_base p) hb); replace c := bb c hb; replace HB := bs HB hb; replace HK := ks HK hb; (try clear hb hk p); refine hK.out _ _ ⟨(bc c 0), (bc c 1)⟩ (fun A => ?_); clear hK K; refine nz_ 42 ?_; exact norm_ (by simp only [putAll, Act.put, List.setIfInBounds_toArray, List.set_cons_zero, List.set_cons_succ]) (hCont (Y, ah) _ ⟨A, (Kd.R_mono (onR B) (fun _ hk => hk.2)), (Kd.R_mono (onR q) (fun _ hk => hk.2)), (Kd.S_mono (onS g) (fun _ hk => ⟨hk.2, hk.1.2⟩)), (bkn c), (bn HB), HK.out, hY⟩)
        rintro ⟨Y, ah⟩ aj ⟨hS_, bg, bh, bi, bj, bk, HK_, hY⟩; replace HK := am HK_; clear HK_; have D : Aside0 (Kd.R (Kd.int .i64) 3 aj w.heap.size (fun k_ => some k_ ≠ (ah : Value).ownBlock) Y W) := ⟨bg⟩; have E : Aside0 (Kd.R (Kd.int .i64) 3 aj w.heap.size (fun k_ => some k_ ≠ (Y : Value).ownBlock) ah X) := ⟨bh⟩; have G : Aside0 (Kd.S (Kd.slice 3 (Kd.int .i64)) 30 aj w.heap.size (fun k_ => some k_ ≠ (Y : Value).ownBlock ∧ some k_ ≠ (ah : Value).ownBlock) u3 U) := ⟨bi⟩; have I : Bk aj L (.cells #[.int .i64 d, .slice s l.length t] 25 (0, 0)) := ⟨bj⟩; have Z : Aside0 (Below w.heap.size w aj) := ⟨bk⟩; clear g c HB bg bh bi bj bk; have B := D; have q := E; have g := G; have c := I; have HB := Z; clear D E G I Z; have A : aj.cell? ⟨L, 0, none⟩ = some (.int .i64 d) ∧ aj.cell? ⟨L, 1, none⟩ = some (.slice s l.length t) := hS_; obtain ⟨bl, bo, bp⟩ := Kd.R_slice q.out; (first | subst bp | (injection bp with f1_ f2_ f3_; have a0 := f1_.symm; have a1 := f3_.symm; clear f1_ f2_ f3_; subst a0; subst a1)); refine norm_ (a' := ?_) ?_ ?_
        rotate_left
        ·simp only [putAll, Act.put, List.setIfInBounds_toArray, List.set_cons_zero, List.set_cons_succ]
         rfl
        refine on_ 5 y (fun K hK => ?_); refine Kd.R_append_rows_step (Kd.int .i64) (w0 := w) w.heap.size (by rfl) (.tmp 42) (.tmp 44) 30 3 (.int .i64 0) 8 rfl Try.underlying30 info3 rfl (by decide) (by omega) Y W X _ _ _ (fun k_ => some k_ ≠ (.slice bl X.length bo : Value).ownBlock) (fun _ => False) rfl rfl ?aO ?aR (fun _ _ h => h) (fun _ h => h.elim) ?aF ?aB ?aS ?aL ?_; (case aR => repeat (first | exact (Kd.R_reads' q.out).2.2 | (with_reducible refine Kd.C_alloc ?_ _) | (with_reducible refine Kd.C_drewN ?_ _) | (with_reducible refine Kd.C_drew ?_))); (case aB => exact (bn HB)); (case aF => exact (fun k_ hk => Kd.fresh' (Kd.R_lt (onR q)) k_ hk)); (case aO => exact (onR B)); (case aS => exact (below_size (bn HB))); (case aL => have := bH.out; omega); intro bS w38 ho hb hg ar; rw [← bI.out] at ho; have D := am (Kd.S_after (ok := (fun k_ => some k_ ≠ (.slice bl X.length bo : Value).ownBlock)) (Kd.S_mono (onS g) (fun _ hk => ⟨hk.2, hk.1⟩)) hg ar); have E := bm (blk_grown (bkn c) hg (Kd.R_ne B.out c.out (by decide))); have G := am (Kd.R_after (ok := (fun _ => True)) (Kd.R_mono (onR q) (fun _ hk => ⟨trivial, hk⟩)) hg ar); have I := am hb; replace HK := kf HK hg hY; have Z := am ho; clear g c q HB B; have g := D; have c := E; have q := G; have HB := I; have ap := Z; clear D E G I Z ho hb hg ar; obtain ⟨bM, bN, br⟩ := Kd.R_slice ap.out; (first | subst br | (injection br with f1_ f2_ f3_; have a0 := f1_.symm; have a1 := f3_.symm; clear f1_ f2_ f3_; subst a0; subst a1)); refine hK.out _ _ ⟨(bc c 0), (bc c 1)⟩ (fun A => ?_); clear hK K; refine nz_ 45 ?_; refine on_ 8 y (fun K hK => ?_); refine gg_ Try.func116 #[.agg #[.int .i64 d, .slice s l.length t], .slice bM aY.length bN, .int .i64 o, u3] ?_
        with_reducible refine (ih kj20 (by have := af.out; have := av.out; omega) d _ _ l _ _ aY o u3 U al w _ ?z_0 ?z_1 ?z_2 ?z_3 ?z_4 ?z_5 hO bJ.out).mono ?_
        (case z_0 => exact bn HB); (case z_1 => exact aJ.out); (case z_2 => exact aK.out); (case z_3 => exact fun W_ hk_ => krow (onR ap) hk_); (case z_4 => exact (Kd.R_reads' ap.out).2.1); (case z_5 => exact Kd.S_mono (onS g) (fun _ hk => trivial)); rintro e w41 ⟨bT, rfl, p, hb, hk_, hO1⟩; refine ⟨_, rfl, ?_⟩; have bO := am p; replace c := kbk c hk_; replace HK := kt HK hk_; replace HB := am hb; clear g q ap p hb hk_ hY; refine hK.out _ _ ⟨(bc c 0), (bc c 1)⟩ (fun A => ?_); clear hK K; refine nz_ 48 ?_; refine pz_ 9 y ?_; refine done_ (done_of y.out (by kernel_rfl)) ?_; try go_wp2
        go_roundg kj20
        case measure => have := af.out; have := av.out; omega
        case rel => exact ⟨(al), (wrap64 (n + 1)), rs_, H', ⟨by have := af.out; have := av.out; omega⟩, ⟨onS bO⟩, ⟨bkn c⟩, ⟨bn HB⟩, ⟨knt HK⟩, hO1⟩
       ·obtain rfl := nt_ bd; rw [if_neg nf_] at H; have H' := am H; clear H; go_wp2
        go_roundg kj20
        case measure => have := af.out; have := av.out; omega
        case rel => exact ⟨(U), (wrap64 (n + 1)), rs_, H', ⟨by have := af.out; have := av.out; omega⟩, ⟨onS g⟩, ⟨bkn c⟩, ⟨bn HB⟩, ⟨knt HK⟩, hO⟩
    ·rw [if_neg ag] at H; have a8 := decide_eq_false ag; clear ag; obtain rfl := Option.some.inj H; go_wp2
     go_ret
     exact ⟨_, by first | rfl | (simp [errW_none, errW_some] <;> rfl) | (simp only [← aa]; first | rfl | (simp [errW_none, errW_some] <;> rfl)) | (simp [*, errW_none, errW_some] <;> rfl), onS g, bn HB, knt HK, hO⟩
end Go.Proofs.Ytffflhmblelegaa.F
