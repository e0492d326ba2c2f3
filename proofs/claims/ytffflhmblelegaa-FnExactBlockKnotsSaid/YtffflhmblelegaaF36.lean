-- By oprint.py.
import Derived.Test.YtffflhmblelegaaF0
import Derived.Test.YtffflhmblelegaaF30
namespace Go.Proofs.Ytffflhmblelegaa.F
open Go.RowKit Go.Proofs.YtffflhmblelegaaW.PrintWords Go.Proofs.YtffflhmblelegaaW.PrintLast Go.Proofs.YtffflhmblelegaaW.PrintMore
attribute [local go_sem] max2_int min2_int max_two min_two max_three min_three max_four min_four
set_option linter.unusedVariables false
set_option linter.unusedSimpArgs false

/-! ### laws_eqTieS: function 69 -/
def laws_eqTieS.l0 : Nat → List (S52) → List (S52) → Int → Option (Bool)
 | 0, _, _, _ => none
 | k + 1, x0, x1, x5 => if x5 < (x0.length : Int) then (if 0 ≤ x5 then (if x5 < (x1.length : Int) then ((laws_eqTie.f ((rd_T52 x0 x5).f0) ((rd_T52 x0 x5).f1) ((rd_T52 x1 x5).f0) ((rd_T52 x1 x5).f1)).bind fun t820 => (if t820 = true then (laws_eqTieS.l0 k x0 x1 (wrap64 (x5 + 1))) else (some false))) else (none)) else (none)) else (some true)
def laws_eqTieS.f (k : Nat) (l0 : List (S52)) (l1 : List (S52)) : Option (Bool) := if (l0.length : Int) = (l1.length : Int) then (laws_eqTieS.l0 k l0 l1 0) else (some false)
theorem laws_eqTieS.mono_l : ∀ k, (∀ a b c, LeO (laws_eqTieS.l0 k a b c) (laws_eqTieS.l0 (k + 1) a b c))
 | 0 => fun _ _ _ r h => by simp [laws_eqTieS.l0] at h
 | k + 1 => by
  have ih0 := laws_eqTieS.mono_l k
  ·intro a b c; unfold laws_eqTieS.l0; exact mo_
theorem laws_eqTieS.mono : ∀ a b k, LeO (laws_eqTieS.f k a b) (laws_eqTieS.f (k + 1) a b) := by
 intro a b k; have ih0 := laws_eqTieS.mono_l k; unfold laws_eqTieS.f; exact mo_
def laws_eqTieS.T6 : Bool × List (List Nat × List Nat) := (true, [([], []), ([], []), ([0, 1], [0, 1]), ([2], [2]), ([], []), ([], []), ([4, 5], [4, 5]), ([6], [6]), ([3, 7], [3, 7]), ([8], [8])])
def laws_eqTieS.B6 : List Nat := [0, 0, 3, 7, 0, 0, 48, 112, 255, 511]
theorem laws_eqTieS.tab6 : rtab .any (opsOf Try.f69 6) = laws_eqTieS.T6 := by kernel_rfl
theorem laws_eqTieS.bits6 : waitsOk laws_eqTieS.T6.2 laws_eqTieS.B6 = true := by kernel_rfl
set_option maxHeartbeats 8000000 in
set_option maxRecDepth 100000 in
theorem laws_eqTieS.calls (k : Nat) (E : Option Addr) (G : Nat) (l0 : List (S52)) (I : Option Addr) (A : Nat) (b : List (S52)) (r : Bool) (w : World) (J : Kd.C k52 w E l0.length l0) (L : l0.length ≤ G) (M : Kd.C k52 w I b.length b) (O : b.length ≤ A) (h : laws_eqTieS.f k l0 b = some r) :
  Calls Try.prog 69 #[.slice E l0.length G, .slice I b.length A] w fun e w' => e = .returned (.bool r) ∧ Below w.heap.size w w' := by
 have af := Try.underlying52; have P := am J; have HC0 := am L; clear J L; have T := am M; have HC1 := am O; clear M O; have HB := am (Below.refl w.heap.size w)
 have H : (if (l0.length : Int) = (b.length : Int) then (laws_eqTieS.l0 k l0 b 0) else (some false)) = some r := h
 clear h; by_cases d : (l0.length : Int) = (b.length : Int)
 ·rw [if_pos d] at H; have U : ((l0.length : Int) == (b.length : Int)) = true := beq_iff_eq.mpr d; have W : ((l0.length : Int) != (b.length : Int)) = false := bne_eq_false_iff_eq.mpr d; have X : (l0.length == b.length) = true := by first | simpa using d | (simp at d ⊢; omega)
  clear d; have H' := am H; clear H; go_enter Try.func69, Try.ntmps69; go_wp2
  go_loopg [5] k (fun kq v5 w' => ∃ (a : Int), v5 = .int .i64 a ∧ Aside0 (laws_eqTieS.l0 kq l0 b a = some r) ∧ Aside0 (kq ≤ k) ∧ Aside0 (Below w.heap.size w w'))
  case atStart => exact ⟨(0), rs_, H', ⟨Nat.le_refl _⟩, ⟨bn HB⟩⟩
  case round =>
   clear H'; (try clear A d U W X); obtain ⟨a, rfl, HA, Y, HB⟩ := hrel; cases gk with
   | zero => exact absurd HA.out (by simp [laws_eqTieS.l0])
   | succ k1 =>
    have H := HA.out; clear HA; simp only [laws_eqTieS.l0] at H; by_cases s : a < (l0.length : Int)
    ·rw [if_pos s] at H; have aa := decide_eq_true s; clear s; obtain ⟨ag, H⟩ := id_ H; obtain ⟨ah, H⟩ := id_ H; obtain ⟨ab, Z, H⟩ := bi_ H; by_cases c8 : ab = true
     ·subst c8; rw [if_pos rfl] at H; have H' := am H; clear H; try go_wp2
      replace HB := dL HB; have n : 0 ≤ (a : Int) := oa; have o : a < (l0.length : Int) := oa; obtain ⟨ad, B, g, i⟩ := at_T52 P.out a n o; have t := i; have u := g; cases B; replace g := hc_ HB g; replace i := hc_ HB i; obtain ⟨n, o⟩ := e2_ n o; have p : 0 ≤ (a : Int) := oa; have q : a < (b.length : Int) := oa; obtain ⟨ae, D, j, l⟩ := at_T52 T.out a p q; have x := l; have y := j; cases D; replace j := hc_ HB j; replace l := hc_ HB l; obtain ⟨p, q⟩ := e2_ p q; refine s4_ 10 [] (hb_ HB u) (hb_ HB t) (hb_ HB y) (hb_ HB x) (fun m => ?_); refine with_tabW laws_eqTieS.tab6 laws_eqTieS.bits6 (fun c z => ?_); generalize wr.drew = w9 at HB g i j l m ⊢; refine pz_ 0 c ?_; refine pz_ 1 c ?_; refine pz_ 2 c ?_; refine pz_ 4 c ?_; refine pz_ 5 c ?_; refine pz_ 6 c ?_; refine tz_ 3 c z m ?_; refine tz_ 7 c z m ?_; refine on_ 8 c (fun K hK => ?_); refine gg_ Try.func104 #[.agg #[.int .i64 ((rd_T52 l0 a).f0), .int .i64 ((rd_T52 l0 a).f1)], .agg #[.int .i64 ((rd_T52 b a).f0), .int .i64 ((rd_T52 b a).f1)]] ?_
      with_reducible refine (laws_eqTie.calls ((rd_T52 l0 a).f0) ((rd_T52 l0 a).f1) ((rd_T52 b a).f0) ((rd_T52 b a).f1) true _ Z.out).mono ?_
      rintro e w10 ⟨rfl, hb⟩; refine ⟨_, rfl, ?_⟩; replace HB := bs HB hb; (try clear hb); refine hK.out _ _ ⟨(hb_ HB u), (hb_ HB t), (hb_ HB y), (hb_ HB x)⟩ (fun m => ?_); clear hK K; refine nz_ 25 ?_; refine pz_ 9 c ?_; refine done_ (done_of c.out (by kernel_rfl)) ?_; try go_wp2
      go_roundg k1
      case measure => have := Y.out; omega
      case rel => exact ⟨(wrap64 (a + 1)), rs_, H', ⟨by have := Y.out; omega⟩, ⟨bn HB⟩⟩
     ·obtain rfl := nt_ c8; rw [if_neg nf_] at H; obtain rfl := Option.some.inj H; try go_wp2
      replace HB := dL HB; have n : 0 ≤ (a : Int) := oa; have o : a < (l0.length : Int) := oa; obtain ⟨ad, B, g, i⟩ := at_T52 P.out a n o; have t := i; have u := g; cases B; replace g := hc_ HB g; replace i := hc_ HB i; obtain ⟨n, o⟩ := e2_ n o; have p : 0 ≤ (a : Int) := oa; have q : a < (b.length : Int) := oa; obtain ⟨ae, D, j, l⟩ := at_T52 T.out a p q; have x := l; have y := j; cases D; replace j := hc_ HB j; replace l := hc_ HB l; obtain ⟨p, q⟩ := e2_ p q; refine s4_ 10 [] (hb_ HB u) (hb_ HB t) (hb_ HB y) (hb_ HB x) (fun m => ?_); refine with_tabW laws_eqTieS.tab6 laws_eqTieS.bits6 (fun c z => ?_); generalize wr.drew = w11 at HB g i j l m ⊢; refine pz_ 0 c ?_; refine pz_ 1 c ?_; refine pz_ 2 c ?_; refine pz_ 4 c ?_; refine pz_ 5 c ?_; refine pz_ 6 c ?_; refine tz_ 3 c z m ?_; refine tz_ 7 c z m ?_; refine on_ 8 c (fun K hK => ?_); refine gg_ Try.func104 #[.agg #[.int .i64 ((rd_T52 l0 a).f0), .int .i64 ((rd_T52 l0 a).f1)], .agg #[.int .i64 ((rd_T52 b a).f0), .int .i64 ((rd_T52 b a).f1)]] ?_
      with_reducible refine (laws_eqTie.calls ((rd_T52 l0 a).f0) ((rd_T52 l0 a).f1) ((rd_T52 b a).f0) ((rd_T52 b a).f1) false _ Z.out).mono ?_
      rintro e w12 ⟨rfl, hb⟩; refine ⟨_, rfl, ?_⟩; replace HB := bs HB hb; (try clear hb); refine hK.out _ _ ⟨(hb_ HB u), (hb_ HB t), (hb_ HB y), (hb_ HB x)⟩ (fun m => ?_); clear hK K; refine nz_ 25 ?_; refine pz_ 9 c ?_; refine done_ (done_of c.out (by kernel_rfl)) ?_; try go_wp2
      go_ret
      exact ⟨er_, bn HB⟩
    ·rw [if_neg s] at H; have aa := decide_eq_false s; clear s; obtain rfl := Option.some.inj H; go_wp2
     go_ret
     exact ⟨er_, bn HB⟩
 ·rw [if_neg d] at H; have U : ((l0.length : Int) == (b.length : Int)) = false := beq_eq_false_iff_ne.mpr d; have W : ((l0.length : Int) != (b.length : Int)) = true := bne_iff_ne.mpr d; have X : (l0.length == b.length) = false := by first | simpa using d | (simp at d ⊢; omega)
  obtain rfl := Option.some.inj H; go_enter Try.func69, Try.ntmps69; go_wp2
  go_ret
  exact ⟨er_, bn HB⟩

/-! ### laws_eqNet: function 24 -/
def laws_eqNet.f (k : Nat) (a0_0 : Int) (l0_1 : List (S52)) (a1_0 : Int) (l1_1 : List (S52)) : Option (Bool) := if a0_0 = a1_0 then ((laws_eqTieS.f k l0_1 l1_1).bind fun t826 => (if t826 = true then (some true) else (some false))) else (some false)
theorem laws_eqNet.mono : ∀ a b c d k, LeO (laws_eqNet.f k a b c d) (laws_eqNet.f (k + 1) a b c d) := by
 intro a b c d k; unfold laws_eqNet.f; have m0_ := @laws_eqTieS.mono; exact mo_
set_option maxHeartbeats 8000000 in
set_option maxRecDepth 100000 in
theorem laws_eqNet.calls (k : Nat) (d : Int) (j : Option Addr) (l : Nat) (b : List (S52)) (g : Int) (m : Option Addr) (n : Nat) (c : List (S52)) (r : Bool) (w : World) (t : Kd.C k52 w j b.length b) (u : b.length ≤ l) (x : Kd.C k52 w m c.length c) (y : c.length ≤ n) (h : laws_eqNet.f k d b g c = some r) :
  Calls Try.prog 24 #[.agg #[.int .i64 d, .slice j b.length l], .agg #[.int .i64 g, .slice m c.length n]] w fun e w' => e = .returned (.bool r) ∧ Below w.heap.size w w' := by
 have P := Try.underlying25; have z := am t; have A := am u; clear t u; have B := am x; have D := am y; clear x y; have HB := am (Below.refl w.heap.size w)
 have H : (if d = g then ((laws_eqTieS.f k b c).bind fun s => (if s = true then (some true) else (some false))) else (some false)) = some r := h
 clear h; by_cases o : d = g
 ·rw [if_pos o] at H; have M : (d == g) = true := beq_iff_eq.mpr o; have O : (d != g) = false := bne_eq_false_iff_eq.mpr o; clear o; obtain ⟨s, E, H⟩ := bi_ H; by_cases G : s = true
  ·subst G; rw [if_pos rfl] at H; obtain rfl := Option.some.inj H; go_enter Try.func24, Try.ntmps24
   go_wp2_with (first | ((with_reducible refine gate_dst (N := 2) rfl ?_); refine bx_ 2 #[.int .i64 d, .slice j b.length l] 25 HB ?_; clear HB; intro I hg w6 hb a J HB; clear hb hg) | ((with_reducible refine gate_dst (N := 3) rfl ?_); refine bx_ 3 #[.int .i64 g, .slice m c.length n] 25 HB ?_; clear HB; intro K hg w7 hb i L HB; obtain ⟨p, q⟩ := nb_ hg a; replace a := bb a hb; clear hb hg; have T := n2 p q; have U := c2 a; have W := c2 i) | ((with_reducible refine gate_callee (f := 69) rfl ?_); refine gl_ (some 14) Try.func69 #[.slice j b.length l, .slice m c.length n] ?_; (with_reducible refine (laws_eqTieS.calls k _ _ b _ _ c true _ ?z_1 ?z_2 ?z_3 ?z_4 E.out).mono ?_); (case z_1 => exact cb z HB); (case z_2 => exact A.out); (case z_3 => exact cb B HB); (case z_4 => exact D.out); rintro e w11 ⟨rfl, hb⟩; refine ⟨_, rfl, ?_⟩; replace a := bb a hb; replace i := bb i hb; replace HB := bs HB hb; (try clear hb)))
   go_ret
   exact ⟨er_, bn HB⟩
  ·obtain rfl := nt_ G; rw [if_neg nf_] at H; obtain rfl := Option.some.inj H; go_enter Try.func24, Try.ntmps24
   go_wp2_with (first | ((with_reducible refine gate_dst (N := 2) rfl ?_); refine bx_ 2 #[.int .i64 d, .slice j b.length l] 25 HB ?_; clear HB; intro I hg w12 hb a J HB; clear hb hg) | ((with_reducible refine gate_dst (N := 3) rfl ?_); refine bx_ 3 #[.int .i64 g, .slice m c.length n] 25 HB ?_; clear HB; intro K hg w13 hb i L HB; obtain ⟨p, q⟩ := nb_ hg a; replace a := bb a hb; clear hb hg; have X := n2 p q; have Y := c2 a; have Z := c2 i) | ((with_reducible refine gate_callee (f := 69) rfl ?_); refine gl_ (some 14) Try.func69 #[.slice j b.length l, .slice m c.length n] ?_; (with_reducible refine (laws_eqTieS.calls k _ _ b _ _ c false _ ?z_1 ?z_2 ?z_3 ?z_4 E.out).mono ?_); (case z_1 => exact cb z HB); (case z_2 => exact A.out); (case z_3 => exact cb B HB); (case z_4 => exact D.out); rintro e w17 ⟨rfl, hb⟩; refine ⟨_, rfl, ?_⟩; replace a := bb a hb; replace i := bb i hb; replace HB := bs HB hb; (try clear hb)))
   go_ret
   exact ⟨er_, bn HB⟩
 ·rw [if_neg o] at H; have M : (d == g) = false := beq_eq_false_iff_ne.mpr o; have O : (d != g) = true := bne_iff_ne.mpr o; obtain rfl := Option.some.inj H; go_enter Try.func24, Try.ntmps24
  go_wp2_with (first | ((with_reducible refine gate_dst (N := 2) rfl ?_); refine bx_ 2 #[.int .i64 d, .slice j b.length l] 25 HB ?_; clear HB; intro I hg w18 hb a J HB; clear hb hg) | ((with_reducible refine gate_dst (N := 3) rfl ?_); refine bx_ 3 #[.int .i64 g, .slice m c.length n] 25 HB ?_; clear HB; intro K hg w19 hb i L HB; obtain ⟨p, q⟩ := nb_ hg a; replace a := bb a hb; clear hb hg; have aa := n2 p q; have ab := c2 a; have ad := c2 i))
  go_ret
  exact ⟨er_, bn HB⟩

/-! ### laws_markTieS: function 70 -/
def laws_markTieS.l0 : Nat → List (S52) → Int → Int → Option (Int × (List (S52)))
 | 0, _, _, _ => none
 | k + 1, x0, x1, x5 => if x5 < (x0.length : Int) then (if 0 ≤ x5 then ((some (x0.set (x5 : Int).toNat (⟨x1, (rd_T52 x0 x5).f1⟩ : S52) : List (S52))).bind fun y827 => (laws_markTieS.l0 k (y827.set (x5 : Int).toNat (⟨(rd_T52 y827 x5).f0, wrap64 (x1 + 1)⟩ : S52)) (wrap64 ((wrap64 (x1 + 1)) + 1)) (wrap64 (x5 + 1)))) else (none)) else (some (x1, x0))
def laws_markTieS.f (k : Nat) (l0 : List (S52)) (a1 : Int) : Option (Int × (List (S52))) := laws_markTieS.l0 k l0 a1 0
theorem laws_markTieS.mono_l : ∀ k, (∀ a b c, LeO (laws_markTieS.l0 k a b c) (laws_markTieS.l0 (k + 1) a b c))
 | 0 => fun _ _ _ r h => by simp [laws_markTieS.l0] at h
 | k + 1 => by
  have ih0 := laws_markTieS.mono_l k
  ·intro a b c; unfold laws_markTieS.l0; exact mo_
theorem laws_markTieS.mono : ∀ a b k, LeO (laws_markTieS.f k a b) (laws_markTieS.f (k + 1) a b) := by
 intro a b k; have ih0 := laws_markTieS.mono_l k; unfold laws_markTieS.f; exact mo_
set_option maxHeartbeats 8000000 in
set_option maxRecDepth 100000 in
theorem laws_markTieS.calls (k : Nat) (l : Nat → Prop) (y : Value) (l0 : List (S52)) (z : Int) (s : Int) (u : List (S52)) (c w : World) (hB : Below c.heap.size c w) (ar : Kd.R k52 52 w c.heap.size l y l0) (h : laws_markTieS.f k l0 z = some (s, u)) :
  Calls Try.prog 70 #[y, .int .i64 z] w fun e w' => e = .returned (.int .i64 s) ∧ Kd.R k52 52 w' c.heap.size (fun k_ => (l k_ ∨ w.heap.size ≤ k_)) y u ∧ Below c.heap.size c w' ∧ Kept w w' (fun k_ => l k_) := by
 have au := am (show Kd.R k52 52 w c.heap.size (fun k_ => (l k_ ∨ w.heap.size ≤ k_)) y l0 from Kd.R_mono ar (fun k_ hk => (.inl hk))); have HK := am (Kept.refl w (fun k_ => l k_)); have HW0 := am hB.size; have HB := am hB; clear hB
 have H : (laws_markTieS.l0 k l0 z 0) = some (s, u) := h
 clear h; have H' := am H; clear H; go_enter Try.func70, Try.ntmps70; go_wp2
 go_loopg [1, 5] k (fun kq v1 v5 w' => ∃ (b : List (S52)) (i : Int) (a : Int), v1 = .int .i64 i ∧ v5 = .int .i64 a ∧ Aside0 (laws_markTieS.l0 kq b i a = some (s, u)) ∧ Aside0 (kq ≤ k) ∧ Aside0 (Kd.R k52 52 w' c.heap.size (fun k_ => (l k_ ∨ w.heap.size ≤ k_)) y b) ∧ Aside0 (Kept w w' (fun k_ => l k_)) ∧ Aside0 (Below c.heap.size c w'))
 case atStart => exact ⟨(l0), (z), (0), rs_, rs_, H', ⟨Nat.le_refl _⟩, ⟨onR au⟩, ⟨by repeat (first | (with_reducible first | exact HK.out | apply Kept.alloc | apply Kept.drewN | apply Kept.drew) | exact HK.out)⟩, ⟨bn HB⟩⟩
 case round =>
  clear H'; obtain ⟨b, i, a, rfl, rfl, HA, Z, d, HK, HB⟩ := hrel; cases gk with
  | zero => exact absurd HA.out (by simp [laws_markTieS.l0])
  | succ k1 =>
   have H := HA.out; clear HA; simp only [laws_markTieS.l0] at H; by_cases x : a < (b.length : Int)
   ·rw [if_pos x] at H; have av := decide_eq_true x; clear x; obtain ⟨aH, H⟩ := id_ H; obtain ⟨n, B⟩ : ∃ y_ : List (S52), y_ = (b.set (a : Int).toNat (⟨i, (rd_T52 b a).f1⟩ : S52)) := ⟨_, rfl⟩; replace H : (laws_markTieS.l0 k1 (n.set (a : Int).toNat (⟨(rd_T52 n a).f0, wrap64 (i + 1)⟩ : S52)) (wrap64 ((wrap64 (i + 1)) + 1)) (wrap64 (a + 1))) = some (s, u) := nh_ B H; have aw := am B; clear B; obtain ⟨D, E⟩ : ∃ y_ : List (S52), y_ = (n.set (a : Int).toNat (⟨(rd_T52 n a).f0, wrap64 (i + 1)⟩ : S52)) := ⟨_, rfl⟩; replace H : (laws_markTieS.l0 k1 D (wrap64 ((wrap64 (i + 1)) + 1)) (wrap64 (a + 1))) = some (s, u) := nh_ E H; have ax := am E; clear E; have H' := am H; clear H; obtain ⟨Ao7, A, ay⟩ := Kd.R_slice d.out; subst ay; have G : 0 ≤ (a : Int) := oa; have I : (a : Int) < ((b.length : Int) : Int) := oa; obtain ⟨g, co5, aa, ab, az, cl5, ad⟩ := Kd.R_form d.out (by omega); (first | cases aa | (injection aa with ea_ en_ ec_; (first | subst ea_ | (injection ea_ with ea_; subst ea_)); subst ec_; clear en_)); have ae := am ab; have GG5 := am ad; clear ab az ad; have aI := am (show (l g ∨ w.heap.size ≤ g) from (d.out.1 _ rfl)); obtain ⟨ce5, aA, af, J, K⟩ := Kd.R_elem d.out z52 (a : Int) G I; obtain rfl := k52_openM af; have aJ : wr.cell? ⟨g, (a : Int).toNat * 2, none⟩ = some (.int .i64 ((rd_T52 b a).f0)) := J 0 _ rfl; have aK : wr.cell? ⟨g, (a : Int).toNat * 2 + 1, none⟩ = some (.int .i64 ((rd_T52 b a).f1)) := J 1 _ rfl; have aL : wr.frozen? ⟨g, (a : Int).toNat * 2, none⟩ = false := K 0; have aM : wr.frozen? ⟨g, (a : Int).toNat * 2 + 1, none⟩ = false := K 1; clear aA J K; (try clear af); obtain ⟨G, I⟩ := e2_ G I; have ag := am (show Kd.R k52 52 wr c.heap.size (fun k_ => (l k_ ∨ w.heap.size ≤ k_)) (.slice (some ⟨g, 0, none⟩) b.length A) b from (onR d)); obtain ⟨ce8, ah, ai, L, aj⟩ := Kd.R_elem ag.out z52 (a : Int) (oa) (by have m : (a : Int) < ((b.length : Int) : Int) := oa; first | exact m | (have q := (Kd.R_reads' d.out).1; omega) | simpa using m); obtain rfl := k52_openM ai; have M := Kd.R_seg ag.out (a : Int) (oa) (by have m : (a : Int) < ((b.length : Int) : Int) := oa; first | exact m | (have q := (Kd.R_reads' d.out).1; omega) | simpa using m) (seg := [.int .i64 i]) (j := 0) ah L (show 1 ≤ 2 from by decide) (x' := (⟨i, (rd_T52 b a).f1⟩ : S52)) (k52_mkM _ _ _ (⟨i, (rd_T52 b a).f1⟩ : S52) ) (fun _ hk => hk); have aB := L 0 _ rfl; (try simp only [show (k52).sz = 2 from rfl, Nat.mul_one, Nat.add_zero] at aB); have aC := aj 0; (try simp only [show (k52).sz = 2 from rfl, Nat.mul_one, Nat.add_zero] at aC); clear ah L aj; (try clear ai)
    go_wp2_with (first | ((with_reducible refine gate_store (t := 3) (p := 16) rfl ?_); refine store_event (t := 3) (p := 16) (v := ?vo_w9) (w1 := (wr.setCell ⟨g, (a : Int).toNat * 2, none⟩ (.int .i64 i))) ?hg ?ho ?hn ?hr ?_; (case ho => rfl); (case hg => rfl); (case hn => rfl); (case hr => first | (go_simp; done) | (go_simp; rfl)); intro o hw; have hg : wr.grownBy o (some g) := (by rw [hw]; exact M.2); have hp_ : Kd.R k52 52 o c.heap.size (fun k_ => (l k_ ∨ w.heap.size ≤ k_)) (.slice (some ⟨g, 0, none⟩) b.length A) n := (by rw [hw, aw.out]; exact M.1); clear M; replace HB := am (by rw [hw]; exact below_set (HB.out) ae.out : Below c.heap.size c o); replace HK := am (Kept.of_grown (S := (fun k_ => l k_)) hg (by repeat (first | (with_reducible first | exact HK.out | apply Kept.alloc | apply Kept.drewN | apply Kept.drew) | exact HK.out)) (fun k_ q => (d.out.1 k_ q))); replace d := am hp_; clear hg hw hp_; have O : 0 ≤ (a : Int) := oa; have P : (a : Int) < ((b.length : Int) : Int) := oa; obtain ⟨ce6, aD, ak, T, U⟩ := Kd.R_elem d.out z52 (a : Int) O P; obtain rfl := k52_openM ak; have aN : o.cell? ⟨g, (a : Int).toNat * 2, none⟩ = some (.int .i64 ((rd_T52 n a).f0)) := T 0 _ rfl; have aO : o.cell? ⟨g, (a : Int).toNat * 2 + 1, none⟩ = some (.int .i64 ((rd_T52 n a).f1)) := T 1 _ rfl; have aP : o.frozen? ⟨g, (a : Int).toNat * 2, none⟩ = false := U 0; have aQ : o.frozen? ⟨g, (a : Int).toNat * 2 + 1, none⟩ = false := U 1; clear aD T U; (try clear ak); obtain ⟨O, P⟩ := e2_ O P; have al := am (show Kd.R k52 52 o c.heap.size (fun k_ => (l k_ ∨ w.heap.size ≤ k_)) (.slice (some ⟨g, 0, none⟩) b.length A) n from (onR d)); obtain ⟨aR, an, ap, W, aq⟩ := Kd.R_elem al.out z52 (a : Int) (oa) (by have m : (a : Int) < ((b.length : Int) : Int) := oa; first | exact m | (have q := (Kd.R_reads' d.out).1; omega) | simpa using m); obtain rfl := k52_openM ap; have X := Kd.R_seg al.out (a : Int) (oa) (by have m : (a : Int) < ((b.length : Int) : Int) := oa; first | exact m | (have q := (Kd.R_reads' d.out).1; omega) | simpa using m) (seg := [.int .i64 (wrap64 (i + 1))]) (j := 1) an W (show 2 ≤ 2 from by decide) (x' := (⟨(rd_T52 n a).f0, wrap64 (i + 1)⟩ : S52)) (k52_mkM _ _ _ (⟨(rd_T52 n a).f0, wrap64 (i + 1)⟩ : S52) ) (fun _ hk => hk); have aE := W 1 _ rfl; (try simp only [show (k52).sz = 2 from rfl, Nat.mul_one, Nat.add_zero] at aE); have aF := aq 1; (try simp only [show (k52).sz = 2 from rfl, Nat.mul_one, Nat.add_zero] at aF); clear an W aq; (try clear ap)) | ((with_reducible refine gate_store (t := 3) (p := 23) rfl ?_); refine store_event (t := 3) (p := 23) (v := ?vo_w11) (w1 := (o.setCell ⟨g, (a : Int).toNat * 2 + 1, none⟩ (.int .i64 (wrap64 (i + 1))))) ?hg ?ho ?hn ?hr ?_; (case ho => rfl); (case hg => rfl); (case hn => rfl); (case hr => first | (go_simp; done) | (go_simp; rfl)); intro Y hw; have hg : o.grownBy Y (some g) := (by rw [hw]; exact X.2); have hp_ : Kd.R k52 52 Y c.heap.size (fun k_ => (l k_ ∨ w.heap.size ≤ k_)) (.slice (some ⟨g, 0, none⟩) b.length A) D := (by rw [hw, ax.out]; exact X.1); clear X; replace HB := am (by rw [hw]; exact below_set (HB.out) ae.out : Below c.heap.size c Y); replace HK := am (Kept.of_grown (S := (fun k_ => l k_)) hg (by repeat (first | (with_reducible first | exact HK.out | apply Kept.alloc | apply Kept.drewN | apply Kept.drew) | exact HK.out)) (fun k_ q => (d.out.1 k_ q))); replace d := am hp_; clear hg hw hp_))
    go_roundg k1
    case measure => have := Z.out; omega
    case rel => exact ⟨(D), (wrap64 ((wrap64 (i + 1)) + 1)), (wrap64 (a + 1)), rs_, rs_, H', ⟨by have := Z.out; omega⟩, ⟨onR d⟩, ⟨by repeat (first | (with_reducible first | exact HK.out | apply Kept.alloc | apply Kept.drewN | apply Kept.drew) | exact HK.out)⟩, ⟨bn HB⟩⟩
   ·rw [if_neg x] at H; have av := decide_eq_false x; clear x; simp only [Option.some.injEq, Prod.mk.injEq] at H; obtain ⟨rfl, rfl⟩ := H; obtain ⟨aS, aT, aG⟩ := Kd.R_slice d.out; subst aG; go_wp2
    go_ret
    exact ⟨er_, onR d, bn HB, by repeat (first | (with_reducible first | exact HK.out | apply Kept.alloc | apply Kept.drewN | apply Kept.drew) | exact HK.out)⟩

/-! ### laws_markNet: function 25 -/
def laws_markNet.f (k : Nat) (a0_0 : Int) (l0_1 : List (S52)) (a1 : Int) : Option (Int × (List (S52))) := (laws_markTieS.f k l0_1 a1).bind fun bt830 => (some (bt830.1, bt830.2))
theorem laws_markNet.mono : ∀ a b c k, LeO (laws_markNet.f k a b c) (laws_markNet.f (k + 1) a b c) := by
 intro a b c k; unfold laws_markNet.f; have m0_ := @laws_markTieS.mono; exact mo_
set_option maxHeartbeats 8000000 in
set_option maxRecDepth 100000 in
theorem laws_markNet.calls (k : Nat) (o : Int) (d : Nat → Prop) (j : Value) (a : List (S52)) (g : Int) (p : Int) (q : List (S52)) (b w : World) (hB : Below b.heap.size b w) (y : Kd.R k52 52 w b.heap.size d j a) (h : laws_markNet.f k o a g = some (p, q)) :
  Calls Try.prog 25 #[.agg #[.int .i64 o, j], .int .i64 g] w fun e w' => e = .returned (.int .i64 p) ∧ Kd.R k52 52 w' b.heap.size (fun k_ => (d k_ ∨ w.heap.size ≤ k_)) j q ∧ Below b.heap.size b w' ∧ Kept w w' (fun k_ => d k_) := by
 have E := Try.underlying25; have c := am (show Kd.R k52 52 w b.heap.size (fun k_ => (d k_ ∨ w.heap.size ≤ k_)) j a from Kd.R_mono y (fun k_ hk => (.inl hk))); have HK := am (Kept.refl w (fun k_ => d k_)); have HW0 := am hB.size; have HB := am hB; clear hB
 have H : ((laws_markTieS.f k a g).bind fun s => (some (s.1, s.2))) = some (p, q) := h
 clear h; obtain ⟨⟨z, A⟩, B, H⟩ := bi_ H; (try dsimp only at H); simp only [Option.some.injEq, Prod.mk.injEq] at H; obtain ⟨rfl, rfl⟩ := H; obtain ⟨l, m, D⟩ := Kd.R_slice c.out; subst D; go_enter Try.func25, Try.ntmps25
 go_wp2_with (first | ((with_reducible refine gate_dst (N := 2) rfl ?_); refine be_ 2 #[.int .i64 o, .slice l a.length m] 25 ?_; intro t hg w5 hbox hb; replace c := am (Kd.R_below (onR c) hb); have n := bm hbox; have u := am ((by rw [hg]; exact (by first | exact HK.out.1 | exact (show Kept w _ (fun k_ => d k_) from by repeat (first | (with_reducible first | exact HK.out | apply Kept.alloc | apply Kept.drewN | apply Kept.drew) | exact HK.out)).1) : w.heap.size ≤ t)); replace HK := am (Kept.below (S := (fun k_ => d k_)) (by repeat (first | (with_reducible first | exact HK.out | apply Kept.alloc | apply Kept.drewN | apply Kept.drew) | exact HK.out)) hb); have G := am ((by rw [hg]; exact (below_size (bn HB)) : b.heap.size ≤ t)); replace HB := bs HB hb; clear hb hbox hg; have I := c2 n) | ((with_reducible refine gate_callee (f := 70) rfl ?_); refine gl_ (some 8) Try.func70 #[.slice l a.length m, .int .i64 g] ?_; (with_reducible refine (laws_markTieS.calls k (fun k_ => some k_ = (.slice l a.length m : Value).ownBlock) (.slice l a.length m) a g z A b _ ?z_1 ?z_2 B.out).mono ?_); (case z_1 => exact bn HB); (case z_2 => exact Kd.R_tight rfl c.out); rintro e w7 ⟨rfl, x, hb, hkp⟩; refine ⟨_, rfl, ?_⟩; replace n := bm (blk_kept (bkn n) hkp (fun hs_ => (fun i => (Kd.R_ne c.out n.out (by decide)) i) hs_)); replace HK := am (Kept.then_ (S := (fun k_ => d k_)) (by repeat (first | (with_reducible first | exact HK.out | apply Kept.alloc | apply Kept.drewN | apply Kept.drew | refine Kept.setCell ?_ (.inr u.out) _) | exact HK.out)) hkp (fun k_ hs_ => (fun i => (c.out.1 k_ i.symm)) hs_)); replace c := am (Kd.R_reok rfl x (fun k_ i => c.out.1 k_ i)); replace HB := am hb; (try clear hb hkp x)))
 go_ret
 exact ⟨er_, onR c, bn HB, by repeat (first | (with_reducible first | exact HK.out | apply Kept.alloc | apply Kept.drewN | apply Kept.drew | refine Kept.setCell ?_ (.inr u.out) _) | exact HK.out)⟩

end Go.Proofs.Ytffflhmblelegaa.F
