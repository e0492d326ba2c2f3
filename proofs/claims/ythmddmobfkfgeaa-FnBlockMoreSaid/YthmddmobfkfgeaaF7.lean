-- By oprint.py.
import Derived.Test.YthmddmobfkfgeaaF0
import Derived.Test.YthmddmobfkfgeaaF1
import Derived.Test.YthmddmobfkfgeaaF5
import Derived.Test.YthmddmobfkfgeaaF6
namespace Go.Proofs.Ythmddmobfkfgeaa.F
open Go.RowKit Go.Proofs.YthmddmobfkfgeaaW.PrintWords Go.Proofs.YthmddmobfkfgeaaW.PrintLast Go.Proofs.YthmddmobfkfgeaaW.PrintMore
attribute [local go_sem] max2_int min2_int max_two min_two max_three min_three max_four min_four
set_option linter.unusedVariables false
set_option linter.unusedSimpArgs false

attribute [local go_sem high] eqA33
/-! ### spec_l12Meet: function 154 -/
def spec_l12Meet.j0 : Nat → Bool → Int → Int → Int → Int → Option (Int)
 | 0, _, _, _, _, _ => none
 | k + 1, x9, x167000, x167001, x168000, x168001 => if x9 = true then (some x167000) else (if x167001 = x168000 then (some x167001) else (if x167001 = x168001 then (some x167001) else (some (-1))))
def spec_l12Meet.f (k : Nat) (a0_0 : Int) (a0_1 : Int) (a1_0 : Int) (a1_1 : Int) : Option (Int) := if (a0_0 == a1_0 && (a0_1 == a1_1)) = true then (some (-1)) else (if a0_0 = a1_0 then (spec_l12Meet.j0 k true a0_0 a0_1 a1_0 a1_1) else (spec_l12Meet.j0 k (a0_0 == a1_1) a0_0 a0_1 a1_0 a1_1))
theorem spec_l12Meet.mono_l : ∀ k, (∀ a b c d e, LeO (spec_l12Meet.j0 k a b c d e) (spec_l12Meet.j0 (k + 1) a b c d e))
 | 0 => fun _ _ _ _ _ r h => by simp [spec_l12Meet.j0] at h
 | k + 1 => by
  have ih0 := spec_l12Meet.mono_l k
  ·intro a b c d e; unfold spec_l12Meet.j0; exact mo_
theorem spec_l12Meet.mono : ∀ a b c d k, LeO (spec_l12Meet.f k a b c d) (spec_l12Meet.f (k + 1) a b c d) := by
 intro a b c d k; have ih0 := spec_l12Meet.mono_l k; unfold spec_l12Meet.f; exact mo_
set_option maxHeartbeats 8000000 in
set_option maxRecDepth 100000 in
theorem spec_l12Meet.calls (k : Nat) (c : Int) (b : Int) (a : Int) (d : Int) (r : Int) (w : World) (h : spec_l12Meet.f k c b a d = some r) :
  Calls Try.prog 154 #[.agg #[.int .i64 c, .int .i64 b], .agg #[.int .i64 a, .int .i64 d]] w fun e w' => e = .returned (.int .i64 r) ∧ Below w.heap.size w w' := by
 have aa := Try.underlying33; have HB := am (Below.refl w.heap.size w)
 have H : (if (c == a && (b == d)) = true then (some (-1)) else (if c = a then (spec_l12Meet.j0 k true c b a d) else (spec_l12Meet.j0 k (c == d) c b a d))) = some r := h
 clear h; by_cases i : (c == a && (b == d)) = true
 ·rw [if_pos i] at H; have u : (c == a && (b == d)) = true := i; (try (have x : decide (c = a && (b == d)) = true := by simpa using i)); (try (have y : (c == a && (b == d)) = true := by simpa using i)); clear i; obtain rfl := Option.some.inj H; go_enter Try.func154, Try.ntmps154
  go_wp2_with (first | ((with_reducible refine gate_dst (N := 2) rfl ?_); refine bx_ 2 #[.int .i64 c, .int .i64 b] 33 HB ?_; clear HB; intro z hg w4 hb g E HB; clear hb hg) | ((with_reducible refine gate_dst (N := 3) rfl ?_); refine bx_ 3 #[.int .i64 a, .int .i64 d] 33 HB ?_; clear HB; intro A hg w5 hb j G HB; obtain ⟨l, m⟩ := nb_ hg g; replace g := bb g hb; clear hb hg; have ab := n2 l m; have I := c2 g; have J := c2 j))
  go_ret
  exact ⟨er_, bn HB⟩
 ·rw [if_neg i] at H; have u : (c == a && (b == d)) = false := by simpa using i
  (try (have x : decide (c = a && (b == d)) = false := by simpa using i)); (try (have y : (c == a && (b == d)) = false := by simpa using i)); (try (have ad : ¬ (c = a && (b == d)) := by simpa using i)); clear i; have t := am H; clear H; go_enter Try.func154, Try.ntmps154
  go_upto_region 3 with (first | ((with_reducible refine gate_dst (N := 2) rfl ?_); refine bx_ 2 #[.int .i64 c, .int .i64 b] 33 HB ?_; clear HB; intro z hg w10 hb g E HB; clear hb hg) | ((with_reducible refine gate_dst (N := 3) rfl ?_); refine bx_ 3 #[.int .i64 a, .int .i64 d] 33 HB ?_; clear HB; intro A hg w11 hb j G HB; obtain ⟨l, m⟩ := nb_ hg g; replace g := bb g hb; clear hb hg; have ae := n2 l m; have K := c2 g; have L := c2 j))
  (try simp only [Act.put, List.setIfInBounds_toArray, List.set_cons_zero, List.set_cons_succ])
  go_cut [9] (fun M wc => ∃ (kq : Nat) (s : Bool), M = .bool s ∧ Aside0 (spec_l12Meet.j0 kq s c b a d = some r) ∧ Aside0 (kq ≤ k) ∧ Bk wc z (.cells #[.int .i64 c, .int .i64 b] 33 (0, 0)) ∧ Bk wc A (.cells #[.int .i64 a, .int .i64 d] 33 (0, 0)) ∧ Aside0 (Below w.heap.size w wc))
  case first =>
   have H := t.out; clear t; by_cases n : c = a
   ·rw [if_pos n] at H; have q : (c == a) = true := beq_iff_eq.mpr n; have B : (c != a) = false := bne_eq_false_iff_eq.mpr n; clear n; (first | rw [q] | (simp only [i64_w, i32_w]; rw [q]) | skip); have H' := am H; clear H; have af := n2 l m; have O := c2 g; have P := c2 j; go_wp2
    go_meet
    case rel => exact ⟨_, (true), rs_, H', ⟨by first | omega | exact Nat.le_refl _⟩, ⟨bkn g⟩, ⟨bkn j⟩, ⟨bn HB⟩⟩
   ·rw [if_neg n] at H; have q : (c == a) = false := beq_eq_false_iff_ne.mpr n; have B : (c != a) = true := bne_iff_ne.mpr n; (first | rw [q] | (simp only [i64_w, i32_w]; rw [q]) | skip); have H' := am H; clear H; have ag := n2 l m; have T := c2 g; have U := c2 j; go_wp2
    go_meet
    case rel => exact ⟨_, ((c == d)), rs_, H', ⟨by first | omega | exact Nat.le_refl _⟩, ⟨bkn g⟩, ⟨bkn j⟩, ⟨bn HB⟩⟩
  case rest =>
   clear t; (try clear i u x y n q B K L O P T U I J); obtain ⟨kq, s, rfl, HA, HJ8, g, j, HB⟩ := hcut; cases kq with
   | zero => exact absurd HA.out (by simp [spec_l12Meet.j0])
   | succ kj8 =>
    have H := HA.out; clear HA; simp only [spec_l12Meet.j0] at H; by_cases D : s = true
    ·subst D; rw [if_pos rfl] at H; obtain rfl := Option.some.inj H; have ah := n2 l m; have ai := c2 g; go_wp2
     go_ret
     exact ⟨er_, bn HB⟩
    ·obtain rfl := nt_ D; rw [if_neg nf_] at H; by_cases o : b = a
     ·rw [if_pos o] at H; have W : (b == a) = true := beq_iff_eq.mpr o; have X : (b != a) = false := bne_eq_false_iff_eq.mpr o; clear o; obtain rfl := Option.some.inj H; have aj := n2 l m; have ak := c2 g; have al := c2 j; go_wp2
      go_ret
      exact ⟨er_, bn HB⟩
     ·rw [if_neg o] at H; have W : (b == a) = false := beq_eq_false_iff_ne.mpr o; have X : (b != a) = true := bne_iff_ne.mpr o; by_cases p : b = d
      ·rw [if_pos p] at H; have Y : (b == d) = true := beq_iff_eq.mpr p; have Z : (b != d) = false := bne_eq_false_iff_eq.mpr p; clear p; obtain rfl := Option.some.inj H; have an := n2 l m; have ap := c2 g; have aq := c2 j; go_wp2
       go_ret
       exact ⟨er_, bn HB⟩
      ·rw [if_neg p] at H; have Y : (b == d) = false := beq_eq_false_iff_ne.mpr p; have Z : (b != d) = true := bne_iff_ne.mpr p; obtain rfl := Option.some.inj H; have ar := n2 l m; have au := c2 g; have av := c2 j; go_wp2
       go_ret
       exact ⟨er_, bn HB⟩

/-! ### spec_l12Other: function 155 -/
def spec_l12Other.f (a0_0 : Int) (a0_1 : Int) (a1 : Int) : Option (Int) := if a0_0 = a1 then (some a0_1) else (some a0_0)
set_option maxHeartbeats 8000000 in
set_option maxRecDepth 100000 in
theorem spec_l12Other.calls (a : Int) (d : Int) (b : Int) (r : Int) (w : World) (h : spec_l12Other.f a d b = some r) :
  Calls Try.prog 155 #[.agg #[.int .i64 a, .int .i64 d], .int .i64 b] w fun e w' => e = .returned (.int .i64 r) ∧ Below w.heap.size w w' := by
 have n := Try.underlying33; have HB := am (Below.refl w.heap.size w)
 have H : (if a = b then (some d) else (some a)) = some r := h
 clear h; by_cases c : a = b
 ·rw [if_pos c] at H; have i : (a == b) = true := beq_iff_eq.mpr c; have j : (a != b) = false := bne_eq_false_iff_eq.mpr c; clear c; obtain rfl := Option.some.inj H; go_enter Try.func155, Try.ntmps155
  go_wp2_with (first | ((with_reducible refine gate_dst (N := 2) rfl ?_); refine bx_ 2 #[.int .i64 a, .int .i64 d] 33 HB ?_; clear HB; intro l hg w4 hb g m HB; clear hb hg; have o := c2 g))
  go_ret
  exact ⟨er_, bn HB⟩
 ·rw [if_neg c] at H; have i : (a == b) = false := beq_eq_false_iff_ne.mpr c; have j : (a != b) = true := bne_iff_ne.mpr c; obtain rfl := Option.some.inj H; go_enter Try.func155, Try.ntmps155
  go_wp2_with (first | ((with_reducible refine gate_dst (N := 2) rfl ?_); refine bx_ 2 #[.int .i64 a, .int .i64 d] 33 HB ?_; clear HB; intro l hg w6 hb g m HB; clear hb hg; have p := c2 g))
  go_ret
  exact ⟨er_, bn HB⟩

/-! ### spec_l12Side: function 131 -/
def spec_l12Side.f (k : Nat) (a0_0 : Int) (l0_1 : List (S33)) (a1_0 : Int) (a1_1 : Int) (a2_0 : Int) (a2_1 : Int) : Option (Bool) := (spec_l12Meet.f k a1_0 a1_1 a2_0 a2_1).bind fun t172 => (if t172 < 0 then (some false) else ((spec_NetWithout.f k a0_0 l0_1 t172).bind fun bt173 => ((spec_l12Other.f a1_0 a1_1 t172).bind fun t177 => ((spec_WayReach.f k bt173.1 bt173.2 t177).bind fun t178 => ((spec_l12Other.f a2_0 a2_1 t172).bind fun t181 => (if 0 ≤ t181 then (if t181 < (t178.length : Int) then (some (rdOf false t178 t181)) else (none)) else (none)))))))
theorem spec_l12Side.mono : ∀ a b c d e g k, LeO (spec_l12Side.f k a b c d e g) (spec_l12Side.f (k + 1) a b c d e g) := by
 intro a b c d e g k; unfold spec_l12Side.f; have m0_ := @spec_NetWithout.mono; have m1_ := @spec_WayReach.mono; have m2_ := @spec_l12Meet.mono; exact mo_
def spec_l12Side.T4 : Bool × List (List Nat × List Nat) := (true, [([], []), ([], []), ([0, 1], [0, 1]), ([], []), ([], []), ([3, 4, 2], [3, 4]), ([2, 5, 5], [2, 5]), ([], []), ([], []), ([7, 8, 6], [7, 8]), ([6, 9], [6, 9]), ([10], [10]), ([11, 9, 0, 1, 2, 3, 4, 5, 6, 7, 8, 9, 10, 11], [11])])
def spec_l12Side.B4 : List Nat := [0, 0, 3, 0, 0, 31, 63, 0, 0, 511, 1023, 2047, 4095]
theorem spec_l12Side.tab4 : rtab .any (opsOf Try.f131 4) = spec_l12Side.T4 := by kernel_rfl
theorem spec_l12Side.bits4 : waitsOk spec_l12Side.T4.2 spec_l12Side.B4 = true := by kernel_rfl
set_option maxHeartbeats 8000000 in
set_option maxRecDepth 100000 in
theorem spec_l12Side.calls (k : Nat) (s : Int) (u : Option Addr) (x : Nat) (n : List (S33)) (i : Int) (j : Int) (l : Int) (m : Int) (r : Bool) (w : World) (Y : Kd.C k33 w u n.length n) (Z : n.length ≤ x) (h : spec_l12Side.f k s n i j l m = some r) :
  Calls Try.prog 131 #[.agg #[.int .i64 s, .slice u n.length x], .agg #[.int .i64 i, .int .i64 j], .agg #[.int .i64 l, .int .i64 m]] w fun e w' => e = .returned (.bool r) ∧ Below w.heap.size w w' := by
 have az := Try.underlying31; have aA := Try.underlying33; have ae := am Y; have af := am Z; clear Y Z; have HB := am (Below.refl w.heap.size w)
 have H : ((spec_l12Meet.f k i j l m).bind fun d => (if d < 0 then (some false) else ((spec_NetWithout.f k s n d).bind fun aa => ((spec_l12Other.f i j d).bind fun y => ((spec_WayReach.f k aa.1 aa.2 y).bind fun z => ((spec_l12Other.f l m d).bind fun q => (if 0 ≤ q then (if q < (z.length : Int) then (some (rdOf false z q)) else (none)) else (none)))))))) = some r := h
 clear h; obtain ⟨d, A4, H⟩ := bi_ H; by_cases t : d < 0
 ·rw [if_pos t] at H; have ag := decide_eq_true t; clear t; obtain rfl := Option.some.inj H; go_enter Try.func131, Try.ntmps131
  go_wp2_with (first | ((with_reducible refine gate_dst (N := 3) rfl ?_); refine bx_ 3 #[.int .i64 s, .slice u n.length x] 31 HB ?_; clear HB; intro ah hg w6 hb a ai HB; clear hb hg) | ((with_reducible refine gate_dst (N := 4) rfl ?_); refine bx_ 4 #[.int .i64 i, .int .i64 j] 33 HB ?_; clear HB; intro aj hg w7 hb b ak HB; obtain ⟨D, E⟩ := nb_ hg a; replace a := bb a hb; clear hb hg) | ((with_reducible refine gate_dst (N := 5) rfl ?_); refine bx_ 5 #[.int .i64 l, .int .i64 m] 33 HB ?_; clear HB; intro al hg w8 hb c an HB; obtain ⟨G, I⟩ := nb_ hg a; replace a := bb a hb; obtain ⟨J, L⟩ := nb_ hg b; replace b := bb b hb; clear hb hg; have aB := n2 E D; have aC := n2 J L; have aD := c2 b; have aE := n2 I G; have aF := c2 c) | ((with_reducible refine gate_callee (f := 154) rfl ?_); refine gl_ (some 10) Try.func154 #[.agg #[.int .i64 i, .int .i64 j], .agg #[.int .i64 l, .int .i64 m]] ?_; (with_reducible refine (spec_l12Meet.calls k i j l m d _ A4.out).mono ?_); rintro e w14 ⟨rfl, hb⟩; refine ⟨_, rfl, ?_⟩; replace a := bb a hb; replace b := bb b hb; replace c := bb c hb; replace HB := bs HB hb; (try clear hb)))
  go_ret
  exact ⟨er_, bn HB⟩
 ·rw [if_neg t] at H; have ag := decide_eq_false t; clear t; obtain ⟨⟨M, O⟩, ap, H⟩ := bi_ H; (try dsimp only at H); obtain ⟨y, aq, H⟩ := bi_ H; obtain ⟨z, ar, H⟩ := bi_ H; obtain ⟨q, au, H⟩ := bi_ H; obtain ⟨aG, H⟩ := id_ H; obtain ⟨aH, H⟩ := id_ H; obtain rfl := Option.some.inj H; go_enter Try.func131, Try.ntmps131
  try go_wp2_with (first | ((with_reducible refine gate_dst (N := 3) rfl ?_); refine bx_ 3 #[.int .i64 s, .slice u n.length x] 31 HB ?_; clear HB; intro ah hg w21 hb a ai HB; clear hb hg) | ((with_reducible refine gate_dst (N := 4) rfl ?_); refine bx_ 4 #[.int .i64 i, .int .i64 j] 33 HB ?_; clear HB; intro aj hg w22 hb b ak HB; obtain ⟨D, E⟩ := nb_ hg a; replace a := bb a hb; clear hb hg) | ((with_reducible refine gate_dst (N := 5) rfl ?_); refine bx_ 5 #[.int .i64 l, .int .i64 m] 33 HB ?_; clear HB; intro al hg w23 hb c an HB; obtain ⟨G, I⟩ := nb_ hg a; replace a := bb a hb; obtain ⟨J, L⟩ := nb_ hg b; replace b := bb b hb; clear hb hg; have aI := n2 E D; have aJ := n2 J L; have aK := c2 b; have aL := n2 I G; have aM := c2 c) | ((with_reducible refine gate_callee (f := 154) rfl ?_); refine gl_ (some 10) Try.func154 #[.agg #[.int .i64 i, .int .i64 j], .agg #[.int .i64 l, .int .i64 m]] ?_; (with_reducible refine (spec_l12Meet.calls k i j l m d _ A4.out).mono ?_); rintro e av ⟨rfl, hb⟩; refine ⟨_, rfl, ?_⟩; replace a := bb a hb; replace b := bb b hb; replace c := bb c hb; replace HB := bs HB hb; (try clear hb)))
  replace a := dB a; replace b := dB b; replace c := dB c; replace HB := dL HB; refine s6_ 13 [] (bq a 0) (bq a 1) (bq b 0) (bq b 1) (bq c 0) (bq c 1) (fun o => ?_); refine with_tabW spec_l12Side.tab4 spec_l12Side.bits4 (fun g P => ?_); generalize av.drew = w30 at a b c HB o ⊢; refine pz_ 1 g ?_; refine pz_ 4 g ?_; refine pz_ 8 g ?_; refine tz_ 0 g P o ?_; refine tz_ 3 g P o ?_; refine tz_ 7 g P o ?_; refine on_ 2 g (fun K hK => ?_); refine gg_ Try.func122 #[.agg #[.int .i64 s, .slice u n.length x], .int .i64 d] ?_
  with_reducible refine (spec_NetWithout.calls k s _ _ n d M O _ ?z_1 ?z_2 ap.out).mono ?_
  (case z_1 => exact cb ae HB); (case z_2 => exact af.out); rintro e w31 ⟨aN, rfl, A, hb⟩; refine ⟨_, rfl, ?_⟩; have p := am (Kd.R_lower (Kd.R_newB (Kd.R_newB A (bkn b)) (bkn c)) (below_size (bn HB))); replace a := bb a hb; replace b := bb b hb; replace c := bb c hb; replace HB := bs HB hb; (try clear hb A); refine hK.out _ _ ⟨(bc a 0), (bc a 1), (bc b 0), (bc b 1), (bc c 0), (bc c 1)⟩ (fun o => ?_); clear hK K; refine nz_ 15 ?_; refine on_ 5 g (fun K hK => ?_); refine gg_ Try.func155 #[.agg #[.int .i64 i, .int .i64 j], .int .i64 d] ?_
  with_reducible refine (spec_l12Other.calls i j d y _ aq.out).mono ?_
  rintro e w32 ⟨rfl, hb⟩; refine ⟨_, rfl, ?_⟩; replace p := am (Kd.R_below (onR p) hb); replace a := bb a hb; replace b := bb b hb; replace c := bb c hb; replace HB := bs HB hb; (try clear hb); obtain ⟨aw, ax, ab⟩ := Kd.R_slice p.out; (first | subst ab | (injection ab with f1_ f2_ f3_; have T := f1_.symm; have U := f3_.symm; clear f1_ f2_ f3_; subst T; subst U)); refine hK.out _ _ ⟨(bc a 0), (bc a 1), (bc b 0), (bc b 1), (bc c 0), (bc c 1)⟩ (fun o => ?_); clear hK K; refine nz_ 18 ?_; refine on_ 6 g (fun K hK => ?_); refine gg_ Try.func77 #[.agg #[.int .i64 M, .slice aw O.length ax], .int .i64 y] ?_
  with_reducible refine (spec_WayReach.calls k M _ _ O y z _ ?z_1 ?z_2 ar.out).mono ?_
  (case z_1 => exact (Kd.R_reads' (onR p)).2.2); (case z_2 => exact (Kd.R_reads' p.out).2.1); rintro e w34 ⟨aO, rfl, A, hb⟩; refine ⟨_, rfl, ?_⟩; replace p := am (Kd.R_below (onR p) hb); have B := am (Kd.R_lower A (below_size (bn HB))); replace a := bb a hb; replace b := bb b hb; replace c := bb c hb; replace HB := bs HB hb; (try clear hb A); refine hK.out _ _ ⟨(bc a 0), (bc a 1), (bc b 0), (bc b 1), (bc c 0), (bc c 1)⟩ (fun o => ?_); clear hK K; refine nz_ 19 ?_; refine on_ 9 g (fun K hK => ?_); refine gg_ Try.func155 #[.agg #[.int .i64 l, .int .i64 m], .int .i64 d] ?_
  with_reducible refine (spec_l12Other.calls l m d q _ au.out).mono ?_
  rintro e w35 ⟨rfl, hb⟩; refine ⟨_, rfl, ?_⟩; replace p := am (Kd.R_below (onR p) hb); replace B := am (Kd.R_below (onR B) hb); replace a := bb a hb; replace b := bb b hb; replace c := bb c hb; replace HB := bs HB hb; (try clear hb); obtain ⟨aP, aQ, ad⟩ := Kd.R_slice B.out; (first | subst ad | (injection ad with f1_ f2_ f3_; have T := f1_.symm; have U := f3_.symm; clear f1_ f2_ f3_; subst T; subst U)); have W : 0 ≤ (q : Int) := oa; have X : q < (z.length : Int) := oa; obtain ⟨aR, ay, aS⟩ := Kd.at_bool (Kd.R_reads' B.out).2.2 q W X; cases ay; obtain ⟨W, X⟩ := e2_ W X; refine hK.out _ _ ⟨(bc a 0), (bc a 1), (bc b 0), (bc b 1), (bc c 0), (bc c 1)⟩ (fun o => ?_); clear hK K; refine nz_ 22 ?_; refine pz_ 10 g ?_; refine on_ 11 g (fun K hK => ?_); refine value_ (w1 := ?_) (v := ?_) (by rfl) rfl ?_ ?_
  rotate_left 2
  ·go_simp
   constructor
   ·rfl
   ·rfl
  refine hK.out _ _ o (fun o => ?_); clear hK K; refine nz_ 24 ?_; refine pz_ 12 g ?_; refine done_ (done_of g.out (by kernel_rfl)) ?_; try go_wp2
  go_ret
  exact ⟨er_, bn HB⟩

end Go.Proofs.Ythmddmobfkfgeaa.F
