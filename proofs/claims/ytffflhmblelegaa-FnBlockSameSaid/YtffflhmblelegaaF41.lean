-- By oprint.py.
import Derived.Test.YtffflhmblelegaaF0
import Derived.Test.YtffflhmblelegaaF1
import Derived.Test.YtffflhmblelegaaF14
import Derived.Test.YtffflhmblelegaaF34
import Derived.Test.YtffflhmblelegaaF4
import Derived.Test.YtffflhmblelegaaXAll
namespace Go.Proofs.Ytffflhmblelegaa.F
open Go.RowKit Go.Proofs.YtffflhmblelegaaW.PrintWords Go.Proofs.YtffflhmblelegaaW.PrintLast Go.Proofs.YtffflhmblelegaaW.PrintMore
attribute [local go_sem] max2_int min2_int max_two min_two max_three min_three max_four min_four
set_option linter.unusedVariables false
set_option linter.unusedSimpArgs false

attribute [local go_sem high] eqA52
/-! ### spec_BlockSame: function 30 -/
mutual
def spec_BlockSame.l0 : Nat → List (List (S52)) → Int → Int → Int → Int → Int → Option (Bool)
 | 0, _, _, _, _, _, _ => none
 | k + 1, x7, x8, x910000, x910001, x911000, x911001 => if x8 < (x7.length : Int) then (spec_BlockSame.l1 k x7 x8 false false 0 x910000 x910001 x911000 x911001) else (some false)
def spec_BlockSame.l1 : Nat → List (List (S52)) → Int → Bool → Bool → Int → Int → Int → Int → Int → Option (Bool)
 | 0, _, _, _, _, _, _, _, _, _ => none
 | k + 1, x7, x8, x9, x10, x11, x910000, x910001, x911000, x911001 => if 0 ≤ x8 then (if x8 < (x7.length : Int) then (if x11 < ((rd_L4 x7 x8).length : Int) then (if x9 = true then (if x10 = true then (spec_BlockSame.l1 k x7 x8 true true (wrap64 (x11 + 1)) x910000 x910001 x911000 x911001) else (if 0 ≤ x11 then (spec_BlockSame.l1 k x7 x8 true (((rd_T52 (rd_L4 x7 x8) x11).f0) == x911000 && (((rd_T52 (rd_L4 x7 x8) x11).f1) == x911001)) (wrap64 (x11 + 1)) x910000 x910001 x911000 x911001) else (none))) else (if 0 ≤ x11 then (if x10 = true then (spec_BlockSame.l1 k x7 x8 (((rd_T52 (rd_L4 x7 x8) x11).f0) == x910000 && (((rd_T52 (rd_L4 x7 x8) x11).f1) == x910001)) true (wrap64 (x11 + 1)) x910000 x910001 x911000 x911001) else (spec_BlockSame.l1 k x7 x8 (((rd_T52 (rd_L4 x7 x8) x11).f0) == x910000 && (((rd_T52 (rd_L4 x7 x8) x11).f1) == x910001)) (((rd_T52 (rd_L4 x7 x8) x11).f0) == x911000 && (((rd_T52 (rd_L4 x7 x8) x11).f1) == x911001)) (wrap64 (x11 + 1)) x910000 x910001 x911000 x911001)) else (none))) else (if x9 = true then (if x10 = true then (some true) else (spec_BlockSame.l0 k x7 (wrap64 (x8 + 1)) x910000 x910001 x911000 x911001)) else (spec_BlockSame.l0 k x7 (wrap64 (x8 + 1)) x910000 x910001 x911000 x911001))) else (none)) else (none)
end
def spec_BlockSame.f (k : Nat) (a0_0 : Int) (l0_1 : List (S52)) (a1_0 : Int) (a1_1 : Int) (a2_0 : Int) (a2_1 : Int) : Option (Bool) := (spec_BlockList.f k a0_0 l0_1).bind fun t911 => (spec_BlockSame.l0 k t911 0 a1_0 a1_1 a2_0 a2_1)
theorem spec_BlockSame.mono_l : ∀ k, (∀ a b c d e f, LeO (spec_BlockSame.l0 k a b c d e f) (spec_BlockSame.l0 (k + 1) a b c d e f)) ∧ (∀ a b c d e f g i j, LeO (spec_BlockSame.l1 k a b c d e f g i j) (spec_BlockSame.l1 (k + 1) a b c d e f g i j))
 | 0 => ⟨fun _ _ _ _ _ _ r h => by simp [spec_BlockSame.l0] at h, fun _ _ _ _ _ _ _ _ _ r h => by simp [spec_BlockSame.l1] at h⟩
 | k + 1 => by
  obtain ⟨ih0, ih1⟩ := spec_BlockSame.mono_l k; refine ⟨?_, ?_⟩
  ·intro a b c d e f; unfold spec_BlockSame.l0; have l := @spec_BlockList.mono; exact mo_
  ·intro a b c d e f g i j; unfold spec_BlockSame.l1; have l := @spec_BlockList.mono; exact mo_
theorem spec_BlockSame.mono : ∀ a b c d e g k, LeO (spec_BlockSame.f k a b c d e g) (spec_BlockSame.f (k + 1) a b c d e g) := by
 intro a b c d e g k; obtain ⟨ih0, ih1⟩ := spec_BlockSame.mono_l k; unfold spec_BlockSame.f; have m0_ := @spec_BlockList.mono; exact mo_
set_option maxHeartbeats 8000000 in
set_option maxRecDepth 100000 in
theorem spec_BlockSame.calls (k : Nat) (J : Int) (U : Option Addr) (W : Nat) (u : List (S52)) (A : Int) (B : Int) (D : Int) (E : Int) (r : Bool) (w : World) (a0 : Kd.C k52 w U u.length u) (a1 : u.length ≤ W) (h : spec_BlockSame.f k J u A B D E = some r) :
  Calls Try.prog 30 #[.agg #[.int .i64 J, .slice U u.length W], .agg #[.int .i64 A, .int .i64 B], .agg #[.int .i64 D, .int .i64 E]] w fun e w' => e = .returned (.bool r) ∧ Below w.heap.size w w' := by
 have bY := Try.underlying25; have bZ := Try.underlying52; have aL := am a0; have aM := am a1; clear a0 a1; have HB := am (Below.refl w.heap.size w)
 have H : ((spec_BlockList.f k J u).bind fun b => (spec_BlockSame.l0 k b 0 A B D E)) = some r := h
 clear h; obtain ⟨b, A4, H⟩ := bi_ H; have H' := am H; clear H; go_enter Try.func30, Try.ntmps30
 go_wp2_with (first | ((with_reducible refine gate_dst (N := 3) rfl ?_); refine bx_ 3 #[.int .i64 J, .slice U u.length W] 25 HB ?_; clear HB; intro aF hg w5 hb g a2 HB; clear hb hg) | ((with_reducible refine gate_dst (N := 4) rfl ?_); refine bx_ 4 #[.int .i64 A, .int .i64 B] 52 HB ?_; clear HB; intro ag hg w6 hb l a3 HB; obtain ⟨X, Y⟩ := nb_ hg g; replace g := bb g hb; clear hb hg) | ((with_reducible refine gate_dst (N := 5) rfl ?_); refine bx_ 5 #[.int .i64 D, .int .i64 E] 52 HB ?_; clear HB; intro ah hg w7 hb o a4 HB; obtain ⟨Z, aa⟩ := nb_ hg g; replace g := bb g hb; obtain ⟨av, aw⟩ := nb_ hg l; replace l := bb l hb; clear hb hg; obtain ⟨a5, a6⟩ := n2 X Y; obtain ⟨a7, a8⟩ := n2 Z aa; have aG := c2 g) | (go_at_call 20; (with_reducible refine (spec_BlockList.calls k J _ _ u b _ ?z_1 ?z_2 A4.out).mono ?_); (case z_1 => exact cb aL HB); (case z_2 => exact aM.out); rintro e a9 ⟨aN, rfl, T, hb⟩; have aO := am (Kd.S_lower (Kd.S_newB (Kd.S_newB T (bkn l)) (bkn o)) (below_size (bn HB))); replace g := bb g hb; replace l := bb l hb; replace o := bb o hb; replace HB := bs HB hb; (try clear hb T)))
 repeat (go_quiet (first | ((with_reducible refine gate_dst (N := 3) rfl ?_); refine bx_ 3 #[.int .i64 J, .slice U u.length W] 25 HB ?_; clear HB; intro aF hg w5 hb g a2 HB; clear hb hg) | ((with_reducible refine gate_dst (N := 4) rfl ?_); refine bx_ 4 #[.int .i64 A, .int .i64 B] 52 HB ?_; clear HB; intro ag hg w6 hb l a3 HB; obtain ⟨X, Y⟩ := nb_ hg g; replace g := bb g hb; clear hb hg) | ((with_reducible refine gate_dst (N := 5) rfl ?_); refine bx_ 5 #[.int .i64 D, .int .i64 E] 52 HB ?_; clear HB; intro ah hg w7 hb o a4 HB; obtain ⟨Z, aa⟩ := nb_ hg g; replace g := bb g hb; obtain ⟨av, aw⟩ := nb_ hg l; replace l := bb l hb; clear hb hg; obtain ⟨a5, a6⟩ := n2 X Y; obtain ⟨a7, a8⟩ := n2 Z aa; have aG := c2 g) | (go_at_call 20; (with_reducible refine (spec_BlockList.calls k J _ _ u b _ ?z_1 ?z_2 A4.out).mono ?_); (case z_1 => exact cb aL HB); (case z_2 => exact aM.out); rintro e a9 ⟨aN, rfl, T, hb⟩; have aO := am (Kd.S_lower (Kd.S_newB (Kd.S_newB T (bkn l)) (bkn o)) (below_size (bn HB))); replace g := bb g hb; replace l := bb l hb; replace o := bb o hb; replace HB := bs HB hb; (try clear hb T))); try go_wp2_with (first | ((with_reducible refine gate_dst (N := 3) rfl ?_); refine bx_ 3 #[.int .i64 J, .slice U u.length W] 25 HB ?_; clear HB; intro aF hg w5 hb g a2 HB; clear hb hg) | ((with_reducible refine gate_dst (N := 4) rfl ?_); refine bx_ 4 #[.int .i64 A, .int .i64 B] 52 HB ?_; clear HB; intro ag hg w6 hb l a3 HB; obtain ⟨X, Y⟩ := nb_ hg g; replace g := bb g hb; clear hb hg) | ((with_reducible refine gate_dst (N := 5) rfl ?_); refine bx_ 5 #[.int .i64 D, .int .i64 E] 52 HB ?_; clear HB; intro ah hg w7 hb o a4 HB; obtain ⟨Z, aa⟩ := nb_ hg g; replace g := bb g hb; obtain ⟨av, aw⟩ := nb_ hg l; replace l := bb l hb; clear hb hg; obtain ⟨a5, a6⟩ := n2 X Y; obtain ⟨a7, a8⟩ := n2 Z aa; have aG := c2 g) | (go_at_call 20; (with_reducible refine (spec_BlockList.calls k J _ _ u b _ ?z_1 ?z_2 A4.out).mono ?_); (case z_1 => exact cb aL HB); (case z_2 => exact aM.out); rintro e a9 ⟨aN, rfl, T, hb⟩; have aO := am (Kd.S_lower (Kd.S_newB (Kd.S_newB T (bkn l)) (bkn o)) (below_size (bn HB))); replace g := bb g hb; replace l := bb l hb; replace o := bb o hb; replace HB := bs HB hb; (try clear hb T))))
 go_loopg [8] k (fun kq v8 w' => ∃ (a : Int), v8 = .int .i64 a ∧ Aside0 (spec_BlockSame.l0 kq b a A B D E = some r) ∧ Aside0 (kq ≤ k) ∧ Aside0 (Kd.S (Kd.slice 52 k52) 23 w' w.heap.size (fun k_ => k_ ≠ ag ∧ k_ ≠ ah) aN b) ∧ Bk w' aF (.cells #[.int .i64 J, (.slice U u.length W)] 25 (0, 0)) ∧ Bk w' ag (.cells #[.int .i64 A, .int .i64 B] 52 (0, 0)) ∧ Bk w' ah (.cells #[.int .i64 D, .int .i64 E] 52 (0, 0)) ∧ Aside0 (Below w.heap.size w w'))
 case atStart => exact ⟨(0), rs_, H', ⟨Nat.le_refl _⟩, ⟨Kd.S_mono (onS aO) (fun _ hk => ⟨hk.1.2, hk.2⟩)⟩, ⟨bkn g⟩, ⟨bkn l⟩, ⟨bkn o⟩, ⟨bn HB⟩⟩
 case round =>
  clear H'; (try clear aG); obtain ⟨a, rfl, HA, G, c, g, l, o, HB⟩ := hrel; cases gk with
  | zero => exact absurd HA.out (by simp [spec_BlockSame.l0])
  | succ k1 =>
   have H := HA.out; clear HA; simp only [spec_BlockSame.l0] at H; by_cases ab : a < (b.length : Int)
   ·rw [if_pos ab] at H; have ba := decide_eq_true ab; clear ab; have H' := am H; clear H; obtain ⟨bx, bz, bA⟩ := Kd.S_slice c.out; subst bA; go_wp2
    repeat (go_quiet (fail); try go_wp2)
    go_loopg [9, 10, 11] k1 (fun kq v9 bB bC w' => ∃ (ax : Bool) (ai : Bool) (m : Int), v9 = .bool ax ∧ bB = .bool ai ∧ bC = .int .i64 m ∧ Aside0 (spec_BlockSame.l1 kq b a ax ai m A B D E = some r) ∧ Aside0 (kq ≤ k1) ∧ Aside0 (Kd.S (Kd.slice 52 k52) 23 w' w.heap.size (fun k_ => k_ ≠ ag ∧ k_ ≠ ah) (.slice bx b.length bz) b) ∧ Bk w' aF (.cells #[.int .i64 J, (.slice U u.length W)] 25 (0, 0)) ∧ Bk w' ag (.cells #[.int .i64 A, .int .i64 B] 52 (0, 0)) ∧ Bk w' ah (.cells #[.int .i64 D, .int .i64 E] 52 (0, 0)) ∧ Aside0 (Below w.heap.size w w'))
    case atStart => exact ⟨(false), (false), (0), rs_, rs_, rs_, H', ⟨Nat.le_refl _⟩, ⟨onS c⟩, ⟨bkn g⟩, ⟨bkn l⟩, ⟨bkn o⟩, ⟨bn HB⟩⟩
    case round =>
     clear H'; (try clear ab ba aG); obtain ⟨ax, ai, m, rfl, rfl, rfl, HA, I, c, g, l, o, HB⟩ := hrel; cases gk with
     | zero => exact absurd HA.out (by simp [spec_BlockSame.l1])
     | succ k2 =>
      have H := HA.out; clear HA; simp only [spec_BlockSame.l1] at H; obtain ⟨b0, H⟩ := id_ H; obtain ⟨b1, H⟩ := id_ H; by_cases aj : m < ((rd_L4 b a).length : Int)
      ·rw [if_pos aj] at H; have bD := decide_eq_true aj; clear aj; by_cases bd : ax = true
       ·subst bd; rw [if_pos rfl] at H; by_cases be : ai = true
        ·subst be; rw [if_pos rfl] at H; have H' := am H; clear H; have i : 0 ≤ (a : Int) := oa; have j : a < (b.length : Int) := oa; obtain ⟨L, ak, al, x, t, p, q⟩ := at_L4 (Kd.S_reads' c.out).2.2 a i j; cases x; obtain ⟨an, y, z, s⟩ := Kd.S_get c.out [] a i (by first | exact j | exact oa | (have M := (Kd.S_reads' c.out).1; omega)); obtain ⟨ap, rfl, n⟩ := z; have d := s 0 _ rfl; rw [Nat.add_zero, show ((Kd.slice 52 k52)).sz = 1 from rfl, Nat.mul_one] at d; replace d := Option.some.inj (d.symm.trans t); rw [d] at n; have aq := am (show Kd.R k52 52 _ _ _ _ (rd_L4 b a) from n); clear d n s y; have ar := am q; have au := am p; clear q p; obtain ⟨i, j⟩ := e2_ i j; go_wp2
         repeat (go_quiet (fail); try go_wp2)
         go_roundg k2
         case measure => have := G.out; have := I.out; omega
         case rel => exact ⟨(true), (true), (wrap64 (m + 1)), rs_, rs_, rs_, H', ⟨by have := G.out; have := I.out; omega⟩, ⟨onS c⟩, ⟨bkn g⟩, ⟨bkn l⟩, ⟨bkn o⟩, ⟨bn HB⟩⟩
        ·obtain rfl := nt_ be; rw [if_neg nf_] at H; obtain ⟨b2, H⟩ := id_ H; have H' := am H; clear H; have i : 0 ≤ (a : Int) := oa; have j : a < (b.length : Int) := oa; obtain ⟨L, ak, al, x, t, p, q⟩ := at_L4 (Kd.S_reads' c.out).2.2 a i j; cases x; obtain ⟨an, y, z, s⟩ := Kd.S_get c.out [] a i (by first | exact j | exact oa | (have M := (Kd.S_reads' c.out).1; omega)); obtain ⟨ap, rfl, n⟩ := z; have d := s 0 _ rfl; rw [Nat.add_zero, show ((Kd.slice 52 k52)).sz = 1 from rfl, Nat.mul_one] at d; replace d := Option.some.inj (d.symm.trans t); rw [d] at n; have aq := am (show Kd.R k52 52 _ _ _ _ (rd_L4 b a) from n); clear d n s y; have ar := am q; have au := am p; clear q p; obtain ⟨i, j⟩ := e2_ i j; have aH : 0 ≤ (a : Int) := oa; have aI : a < (b.length : Int) := oa; obtain ⟨bE, b3, b4, bF, bf, bg, bh⟩ := at_L4 (Kd.S_reads' c.out).2.2 a aH aI; obtain rfl : L = bE := (by injection bF); obtain ⟨b5, bG, bH, bi⟩ := Kd.S_get c.out [] a aH (by first | exact aI | exact oa | (have M := (Kd.S_reads' c.out).1; omega)); obtain ⟨b6, rfl, aP⟩ := bH; have ay := bi 0 _ rfl; rw [Nat.add_zero, show ((Kd.slice 52 k52)).sz = 1 from rfl, Nat.mul_one] at ay; replace ay := Option.some.inj (ay.symm.trans bf); rw [ay] at aP; have b7 := am (show Kd.R k52 52 _ _ _ _ (rd_L4 b a) from aP); clear ay aP bi bG; have bj := am bh; have b8 := am bg; clear bh bg; obtain ⟨aH, aI⟩ := e2_ aH aI; have ea_ := Option.some.inj (t.symm.trans bf); injection ea_ with ea_ en_ ec_
         subst ea_; subst ec_; clear en_; have aQ : 0 ≤ (m : Int) := oa; have aR : m < ((rd_L4 b a).length : Int) := oa; obtain ⟨b9, bI, ca, cc⟩ := at_T52 (by repeat (first | (with_reducible exact bj.out) | (with_reducible refine Kd.C_alloc ?_ _) | (with_reducible refine Kd.C_drewN ?_ _) | (with_reducible refine Kd.C_drew ?_) | exact bj.out)) m aQ aR; cases bI; obtain ⟨aQ, aR⟩ := e2_ aQ aR; have cd := n2 aa Z; have ce := n2 aw av; have cf := c2 o; go_wp2
         repeat (go_quiet (fail); try go_wp2)
         go_roundg k2
         case measure => have := G.out; have := I.out; omega
         case rel => exact ⟨(true), ((((rd_T52 (rd_L4 b a) m).f0) == D && (((rd_T52 (rd_L4 b a) m).f1) == E))), (wrap64 (m + 1)), rs_, rs_, rs_, H', ⟨by have := G.out; have := I.out; omega⟩, ⟨onS c⟩, ⟨bkn g⟩, ⟨bkn l⟩, ⟨bkn o⟩, ⟨bn HB⟩⟩
       ·obtain rfl := nt_ bd; rw [if_neg nf_] at H; obtain ⟨cg, H⟩ := id_ H; by_cases bk : ai = true
        ·subst bk; rw [if_pos rfl] at H; have H' := am H; clear H; have i : 0 ≤ (a : Int) := oa; have j : a < (b.length : Int) := oa; obtain ⟨L, ak, al, x, t, p, q⟩ := at_L4 (Kd.S_reads' c.out).2.2 a i j; cases x; obtain ⟨an, y, z, s⟩ := Kd.S_get c.out [] a i (by first | exact j | exact oa | (have M := (Kd.S_reads' c.out).1; omega)); obtain ⟨ap, rfl, n⟩ := z; have d := s 0 _ rfl; rw [Nat.add_zero, show ((Kd.slice 52 k52)).sz = 1 from rfl, Nat.mul_one] at d; replace d := Option.some.inj (d.symm.trans t); rw [d] at n; have aq := am (show Kd.R k52 52 _ _ _ _ (rd_L4 b a) from n); clear d n s y; have ar := am q; have au := am p; clear q p; obtain ⟨i, j⟩ := e2_ i j; have O : 0 ≤ (a : Int) := oa; have P : a < (b.length : Int) := oa; obtain ⟨aS, bJ, bK, aT, az, aA, aB⟩ := at_L4 (Kd.S_reads' c.out).2.2 a O P; obtain rfl : L = aS := (by injection aT); obtain ⟨bL, aU, aV, aC⟩ := Kd.S_get c.out [] a O (by first | exact P | exact oa | (have M := (Kd.S_reads' c.out).1; omega)); obtain ⟨bM, rfl, ad⟩ := aV; have K := aC 0 _ rfl; rw [Nat.add_zero, show ((Kd.slice 52 k52)).sz = 1 from rfl, Nat.mul_one] at K; replace K := Option.some.inj (K.symm.trans az); rw [K] at ad; have bN := am (show Kd.R k52 52 _ _ _ _ (rd_L4 b a) from ad); clear K ad aC aU; have aD := am aB; have bO := am aA; clear aB aA; obtain ⟨O, P⟩ := e2_ O P; have ea_ := Option.some.inj (t.symm.trans az); injection ea_ with ea_ en_ ec_
         subst ea_; subst ec_; clear en_; have ae : 0 ≤ (m : Int) := oa; have af : m < ((rd_L4 b a).length : Int) := oa; obtain ⟨bP, aW, bQ, bR⟩ := at_T52 (by repeat (first | (with_reducible exact aD.out) | (with_reducible refine Kd.C_alloc ?_ _) | (with_reducible refine Kd.C_drewN ?_ _) | (with_reducible refine Kd.C_drew ?_) | exact aD.out)) m ae af; cases aW; obtain ⟨ae, af⟩ := e2_ ae af; have ch := n2 Y X; have ci := n2 av aw; have cj := c2 l; go_wp2
         repeat (go_quiet (fail); try go_wp2)
         go_roundg k2
         case measure => have := G.out; have := I.out; omega
         case rel => exact ⟨((((rd_T52 (rd_L4 b a) m).f0) == A && (((rd_T52 (rd_L4 b a) m).f1) == B))), (true), (wrap64 (m + 1)), rs_, rs_, rs_, H', ⟨by have := G.out; have := I.out; omega⟩, ⟨onS c⟩, ⟨bkn g⟩, ⟨bkn l⟩, ⟨bkn o⟩, ⟨bn HB⟩⟩
        ·obtain rfl := nt_ bk; rw [if_neg nf_] at H; have H' := am H; clear H; have i : 0 ≤ (a : Int) := oa; have j : a < (b.length : Int) := oa; obtain ⟨L, ak, al, x, t, p, q⟩ := at_L4 (Kd.S_reads' c.out).2.2 a i j; cases x; obtain ⟨an, y, z, s⟩ := Kd.S_get c.out [] a i (by first | exact j | exact oa | (have M := (Kd.S_reads' c.out).1; omega)); obtain ⟨ap, rfl, n⟩ := z; have d := s 0 _ rfl; rw [Nat.add_zero, show ((Kd.slice 52 k52)).sz = 1 from rfl, Nat.mul_one] at d; replace d := Option.some.inj (d.symm.trans t); rw [d] at n; have aq := am (show Kd.R k52 52 _ _ _ _ (rd_L4 b a) from n); clear d n s y; have ar := am q; have au := am p; clear q p; obtain ⟨i, j⟩ := e2_ i j; have O : 0 ≤ (a : Int) := oa; have P : a < (b.length : Int) := oa; obtain ⟨aS, bJ, bK, aT, az, aA, aB⟩ := at_L4 (Kd.S_reads' c.out).2.2 a O P; obtain rfl : L = aS := (by injection aT); obtain ⟨bL, aU, aV, aC⟩ := Kd.S_get c.out [] a O (by first | exact P | exact oa | (have M := (Kd.S_reads' c.out).1; omega)); obtain ⟨bM, rfl, ad⟩ := aV; have K := aC 0 _ rfl; rw [Nat.add_zero, show ((Kd.slice 52 k52)).sz = 1 from rfl, Nat.mul_one] at K; replace K := Option.some.inj (K.symm.trans az); rw [K] at ad; have bN := am (show Kd.R k52 52 _ _ _ _ (rd_L4 b a) from ad); clear K ad aC aU; have aD := am aB; have bO := am aA; clear aB aA; obtain ⟨O, P⟩ := e2_ O P; have ea_ := Option.some.inj (t.symm.trans az); injection ea_ with ea_ en_ ec_
         subst ea_; subst ec_; clear en_; have ae : 0 ≤ (m : Int) := oa; have af : m < ((rd_L4 b a).length : Int) := oa; obtain ⟨bP, aW, bQ, bR⟩ := at_T52 (by repeat (first | (with_reducible exact aD.out) | (with_reducible refine Kd.C_alloc ?_ _) | (with_reducible refine Kd.C_drewN ?_ _) | (with_reducible refine Kd.C_drew ?_) | exact aD.out)) m ae af; cases aW; obtain ⟨ae, af⟩ := e2_ ae af; have ck := n2 Y X; have cl := n2 av aw; have cm := c2 l; have aJ : 0 ≤ (a : Int) := oa; have aK : a < (b.length : Int) := oa; obtain ⟨bS, cn, co, bT, bl, bo, bp⟩ := at_L4 (Kd.S_reads' c.out).2.2 a aJ aK; obtain rfl : L = bS := (by injection bT); obtain ⟨cp, bU, bV, br⟩ := Kd.S_get c.out [] a aJ (by first | exact aK | exact oa | (have M := (Kd.S_reads' c.out).1; omega)); obtain ⟨cq, rfl, aX⟩ := bV; have aE := br 0 _ rfl; rw [Nat.add_zero, show ((Kd.slice 52 k52)).sz = 1 from rfl, Nat.mul_one] at aE; replace aE := Option.some.inj (aE.symm.trans bl); rw [aE] at aX; have cr := am (show Kd.R k52 52 _ _ _ _ (rd_L4 b a) from aX); clear aE aX br bU; have bu := am bp; have cs := am bo; clear bp bo; obtain ⟨aJ, aK⟩ := e2_ aJ aK; have ea_ := Option.some.inj (t.symm.trans bl); injection ea_ with ea_ en_ ec_
         subst ea_; subst ec_; clear en_; have aY : 0 ≤ (m : Int) := oa; have aZ : m < ((rd_L4 b a).length : Int) := oa; obtain ⟨ct, bW, cu, cv⟩ := at_T52 (by repeat (first | (with_reducible exact bu.out) | (with_reducible refine Kd.C_alloc ?_ _) | (with_reducible refine Kd.C_drewN ?_ _) | (with_reducible refine Kd.C_drew ?_) | exact bu.out)) m aY aZ; cases bW; obtain ⟨aY, aZ⟩ := e2_ aY aZ; have cw := n2 aa Z; have cx := c2 o; go_wp2
         repeat (go_quiet (fail); try go_wp2)
         go_roundg k2
         case measure => have := G.out; have := I.out; omega
         case rel => exact ⟨((((rd_T52 (rd_L4 b a) m).f0) == A && (((rd_T52 (rd_L4 b a) m).f1) == B))), ((((rd_T52 (rd_L4 b a) m).f0) == D && (((rd_T52 (rd_L4 b a) m).f1) == E))), (wrap64 (m + 1)), rs_, rs_, rs_, H', ⟨by have := G.out; have := I.out; omega⟩, ⟨onS c⟩, ⟨bkn g⟩, ⟨bkn l⟩, ⟨bkn o⟩, ⟨bn HB⟩⟩
      ·rw [if_neg aj] at H; have bD := decide_eq_false aj; clear aj; by_cases bv : ax = true
       ·subst bv; rw [if_pos rfl] at H; by_cases bw : ai = true
        ·subst bw; rw [if_pos rfl] at H; obtain rfl := Option.some.inj H; have i : 0 ≤ (a : Int) := oa; have j : a < (b.length : Int) := oa; obtain ⟨L, ak, al, x, t, p, q⟩ := at_L4 (Kd.S_reads' c.out).2.2 a i j; cases x; obtain ⟨an, y, z, s⟩ := Kd.S_get c.out [] a i (by first | exact j | exact oa | (have M := (Kd.S_reads' c.out).1; omega)); obtain ⟨ap, rfl, n⟩ := z; have d := s 0 _ rfl; rw [Nat.add_zero, show ((Kd.slice 52 k52)).sz = 1 from rfl, Nat.mul_one] at d; replace d := Option.some.inj (d.symm.trans t); rw [d] at n; have aq := am (show Kd.R k52 52 _ _ _ _ (rd_L4 b a) from n); clear d n s y; have ar := am q; have au := am p; clear q p; obtain ⟨i, j⟩ := e2_ i j; go_wp2
         repeat (go_quiet (fail); try go_wp2)
         go_ret
         exact ⟨er_, bn HB⟩
        ·obtain rfl := nt_ bw; rw [if_neg nf_] at H; have H' := am H; clear H; have i : 0 ≤ (a : Int) := oa; have j : a < (b.length : Int) := oa; obtain ⟨L, ak, al, x, t, p, q⟩ := at_L4 (Kd.S_reads' c.out).2.2 a i j; cases x; obtain ⟨an, y, z, s⟩ := Kd.S_get c.out [] a i (by first | exact j | exact oa | (have M := (Kd.S_reads' c.out).1; omega)); obtain ⟨ap, rfl, n⟩ := z; have d := s 0 _ rfl; rw [Nat.add_zero, show ((Kd.slice 52 k52)).sz = 1 from rfl, Nat.mul_one] at d; replace d := Option.some.inj (d.symm.trans t); rw [d] at n; have aq := am (show Kd.R k52 52 _ _ _ _ (rd_L4 b a) from n); clear d n s y; have ar := am q; have au := am p; clear q p; obtain ⟨i, j⟩ := e2_ i j; go_wp2
         repeat (go_quiet (fail); try go_wp2)
         go_roundg k2
         case measure => have := G.out; have := I.out; omega
         case rel => exact ⟨(wrap64 (a + 1)), rs_, H', ⟨by have := G.out; have := I.out; omega⟩, ⟨onS c⟩, ⟨bkn g⟩, ⟨bkn l⟩, ⟨bkn o⟩, ⟨bn HB⟩⟩
       ·obtain rfl := nt_ bv; rw [if_neg nf_] at H; have H' := am H; clear H; have i : 0 ≤ (a : Int) := oa; have j : a < (b.length : Int) := oa; obtain ⟨L, ak, al, x, t, p, q⟩ := at_L4 (Kd.S_reads' c.out).2.2 a i j; cases x; obtain ⟨an, y, z, s⟩ := Kd.S_get c.out [] a i (by first | exact j | exact oa | (have M := (Kd.S_reads' c.out).1; omega)); obtain ⟨ap, rfl, n⟩ := z; have d := s 0 _ rfl; rw [Nat.add_zero, show ((Kd.slice 52 k52)).sz = 1 from rfl, Nat.mul_one] at d; replace d := Option.some.inj (d.symm.trans t); rw [d] at n; have aq := am (show Kd.R k52 52 _ _ _ _ (rd_L4 b a) from n); clear d n s y; have ar := am q; have au := am p; clear q p; obtain ⟨i, j⟩ := e2_ i j; go_wp2
        repeat (go_quiet (fail); try go_wp2)
        go_roundg k2
        case measure => have := G.out; have := I.out; omega
        case rel => exact ⟨(wrap64 (a + 1)), rs_, H', ⟨by have := G.out; have := I.out; omega⟩, ⟨onS c⟩, ⟨bkn g⟩, ⟨bkn l⟩, ⟨bkn o⟩, ⟨bn HB⟩⟩
   ·rw [if_neg ab] at H; have ba := decide_eq_false ab; clear ab; obtain rfl := Option.some.inj H; obtain ⟨cy, cz, bX⟩ := Kd.S_slice c.out; subst bX; go_wp2
    repeat (go_quiet (fail); try go_wp2)
    go_ret
    exact ⟨er_, bn HB⟩

/-! ### laws_loHas: function 32 -/
def laws_loHas.l0 : Nat → List (S52) → Int → Int → Int → Option (Bool)
 | 0, _, _, _, _ => none
 | k + 1, x0, x5, x922000, x922001 => if x5 < (x0.length : Int) then (if 0 ≤ x5 then (if (((rd_T52 x0 x5).f0) == x922000 && (((rd_T52 x0 x5).f1) == x922001)) = true then (some true) else (laws_loHas.l0 k x0 (wrap64 (x5 + 1)) x922000 x922001)) else (none)) else (some false)
def laws_loHas.f (k : Nat) (l0 : List (S52)) (a1_0 : Int) (a1_1 : Int) : Option (Bool) := laws_loHas.l0 k l0 0 a1_0 a1_1
theorem laws_loHas.mono_l : ∀ k, (∀ a b c d, LeO (laws_loHas.l0 k a b c d) (laws_loHas.l0 (k + 1) a b c d))
 | 0 => fun _ _ _ _ r h => by simp [laws_loHas.l0] at h
 | k + 1 => by
  have ih0 := laws_loHas.mono_l k
  ·intro a b c d; unfold laws_loHas.l0; exact mo_
theorem laws_loHas.mono : ∀ a b c k, LeO (laws_loHas.f k a b c) (laws_loHas.f (k + 1) a b c) := by
 intro a b c k; have ih0 := laws_loHas.mono_l k; unfold laws_loHas.f; exact mo_
set_option maxHeartbeats 8000000 in
set_option maxRecDepth 100000 in
theorem laws_loHas.calls (k : Nat) (q : Option Addr) (s : Nat) (l0 : List (S52)) (b : Int) (c : Int) (r : Bool) (w : World) (t : Kd.C k52 w q l0.length l0) (u : l0.length ≤ s) (h : laws_loHas.f k l0 b c = some r) :
  Calls Try.prog 32 #[.slice q l0.length s, .agg #[.int .i64 b, .int .i64 c]] w fun e w' => e = .returned (.bool r) ∧ Below w.heap.size w w' := by
 have K := Try.underlying52; have x := am t; have HC0 := am u; clear t u; have HB := am (Below.refl w.heap.size w)
 have H : (laws_loHas.l0 k l0 0 b c) = some r := h
 clear h; have H' := am H; clear H; go_enter Try.func32, Try.ntmps32
 go_wp2_with (first | ((with_reducible refine gate_dst (N := 3) rfl ?_); refine bx_ 3 #[.int .i64 b, .int .i64 c] 52 HB ?_; clear HB; intro o hg y hb g z HB; clear hb hg))
 repeat (go_quiet (first | ((with_reducible refine gate_dst (N := 3) rfl ?_); refine bx_ 3 #[.int .i64 b, .int .i64 c] 52 HB ?_; clear HB; intro o hg y hb g z HB; clear hb hg)); try go_wp2_with (first | ((with_reducible refine gate_dst (N := 3) rfl ?_); refine bx_ 3 #[.int .i64 b, .int .i64 c] 52 HB ?_; clear HB; intro o hg y hb g z HB; clear hb hg)))
 go_loopg [5] k (fun kq B w' => ∃ (a : Int), B = .int .i64 a ∧ Aside0 (laws_loHas.l0 kq l0 a b c = some r) ∧ Aside0 (kq ≤ k) ∧ Bk w' o (.cells #[.int .i64 b, .int .i64 c] 52 (0, 0)) ∧ Aside0 (Below w.heap.size w w'))
 case atStart => exact ⟨(0), rs_, H', ⟨Nat.le_refl _⟩, ⟨bkn g⟩, ⟨bn HB⟩⟩
 case round =>
  clear H'; obtain ⟨a, rfl, HA, A, g, HB⟩ := hrel; cases gk with
  | zero => exact absurd HA.out (by simp [laws_loHas.l0])
  | succ k1 =>
   have H := HA.out; clear HA; simp only [laws_loHas.l0] at H; by_cases l : a < (l0.length : Int)
   ·rw [if_pos l] at H; have D := decide_eq_true l; clear l; obtain ⟨L, H⟩ := id_ H; by_cases d : (((rd_T52 l0 a).f0) == b && (((rd_T52 l0 a).f1) == c)) = true
    ·rw [if_pos d] at H; have E : (((rd_T52 l0 a).f0) == b && (((rd_T52 l0 a).f1) == c)) = true := d; (try (have G : decide (((rd_T52 l0 a).f0) = b && (((rd_T52 l0 a).f1) == c)) = true := by simpa using d)); (try (have I : (((rd_T52 l0 a).f0) == b && (((rd_T52 l0 a).f1) == c)) = true := by simpa using d)); clear d; obtain rfl := Option.some.inj H; have i : 0 ≤ (a : Int) := oa; have j : a < (l0.length : Int) := oa; obtain ⟨J, p, m, n⟩ := at_T52 x.out a i j; cases p; replace m := hc_ HB m; replace n := hc_ HB n; obtain ⟨i, j⟩ := e2_ i j; have M := c2 g; go_wp2
     repeat (go_quiet (fail); try go_wp2)
     go_ret
     exact ⟨er_, bn HB⟩
    ·rw [if_neg d] at H; have E : (((rd_T52 l0 a).f0) == b && (((rd_T52 l0 a).f1) == c)) = false := by simpa using d
     (try (have G : decide (((rd_T52 l0 a).f0) = b && (((rd_T52 l0 a).f1) == c)) = false := by simpa using d)); (try (have I : (((rd_T52 l0 a).f0) == b && (((rd_T52 l0 a).f1) == c)) = false := by simpa using d)); (try (have O : ¬ (((rd_T52 l0 a).f0) = b && (((rd_T52 l0 a).f1) == c)) := by simpa using d)); clear d; have H' := am H; clear H; have i : 0 ≤ (a : Int) := oa; have j : a < (l0.length : Int) := oa; obtain ⟨J, p, m, n⟩ := at_T52 x.out a i j; cases p; replace m := hc_ HB m; replace n := hc_ HB n; obtain ⟨i, j⟩ := e2_ i j; have P := c2 g; go_wp2
     repeat (go_quiet (fail); try go_wp2)
     go_roundg k1
     case measure => have := A.out; omega
     case rel => exact ⟨(wrap64 (a + 1)), rs_, H', ⟨by have := A.out; omega⟩, ⟨bkn g⟩, ⟨bn HB⟩⟩
   ·rw [if_neg l] at H; have D := decide_eq_false l; clear l; obtain rfl := Option.some.inj H; go_wp2
    repeat (go_quiet (fail); try go_wp2)
    go_ret
    exact ⟨er_, bn HB⟩

/-! ### impl_WayAll: function 76 -/
def impl_WayAll.f (k : Nat) (a0_0 : Int) (l0_1 : List (S52)) (a1 : Int) (a2 : Int) : Option ((List (List Int))) := (impl_NetOk.f k a0_0 l0_1).bind fun t925 => (if t925 = true then ((impl_Net_knot.f a0_0 l0_1 a1).bind fun t926 => (if t926 = true then ((impl_Net_knot.f a0_0 l0_1 a2).bind fun t927 => (if t927 = true then ((impl_Net_all.f k a0_0 l0_1 a1 a2).bind fun t928 => (some t928)) else (some (([] : List (List Int)))))) else (some (([] : List (List Int)))))) else (some (([] : List (List Int)))))
theorem impl_WayAll.mono : ∀ a b c d k, LeO (impl_WayAll.f k a b c d) (impl_WayAll.f (k + 1) a b c d) := by
 intro a b c d k; unfold impl_WayAll.f; have m0_ := @impl_NetOk.mono; have m1_ := @impl_Net_all.mono; exact mo_
set_option maxHeartbeats 8000000 in
set_option maxRecDepth 100000 in
theorem impl_WayAll.calls (k : Nat) (c : Int) (d : Option Addr) (g : Nat) (b : List (S52)) (l : Int) (m : Int) (r : List (List Int)) (w : World) (J : Kd.C k52 w d b.length b) (K : b.length ≤ g) (h : impl_WayAll.f k c b l m = some r) :
  Calls Try.prog 76 #[.agg #[.int .i64 c, .slice d b.length g], .int .i64 l, .int .i64 m] w fun e w' => ∃ L : Value, e = .returned (L) ∧ Kd.S (Kd.slice 3 (Kd.int .i64)) 30 w' w.heap.size (fun _ => True) L r ∧ Below w.heap.size w w' := by
 have ai := Try.underlying25; have i := am J; have j := am K; clear J K; have HB := am (Below.refl w.heap.size w)
 have H : ((impl_NetOk.f k c b).bind fun u => (if u = true then ((impl_Net_knot.f c b l).bind fun x => (if x = true then ((impl_Net_knot.f c b m).bind fun y => (if y = true then ((impl_Net_all.f k c b l m).bind fun z => (some z)) else (some (([] : List (List Int)))))) else (some (([] : List (List Int)))))) else (some (([] : List (List Int)))))) = some r := h
 clear h; obtain ⟨u, t, H⟩ := bi_ H; by_cases M : u = true
 ·subst M; rw [if_pos rfl] at H; obtain ⟨x, A, H⟩ := bi_ H; by_cases O : x = true
  ·subst O; rw [if_pos rfl] at H; obtain ⟨y, P, H⟩ := bi_ H; by_cases T : y = true
   ·subst T; rw [if_pos rfl] at H; obtain ⟨z, Z, H⟩ := bi_ H; obtain rfl := Option.some.inj H; go_enter Try.func76, Try.ntmps76
    go_wp2_with (first | ((with_reducible refine gate_dst (N := 3) rfl ?_); refine bx_ 3 #[.int .i64 c, .slice d b.length g] 25 HB ?_; clear HB; intro B hg w11 hb a D HB; clear hb hg; have aj := c2 a) | ((with_reducible refine gate_callee (f := 67) rfl ?_); refine gl_ (some 8) Try.func67 #[.agg #[.int .i64 c, .slice d b.length g]] ?_; (with_reducible refine (impl_NetOk.calls k c _ _ b true _ ?z_1 ?z_2 t.out).mono ?_); (case z_1 => exact cb i HB); (case z_2 => exact j.out); rintro e w13 ⟨rfl, hb⟩; refine ⟨_, rfl, ?_⟩; replace a := bb a hb; replace HB := bs HB hb; (try clear hb); have ak := c2 a) | (go_at_call 80; (with_reducible refine (impl_Net_knot.calls c _ _ b l true _ ?z_1 ?z_2 A.out).mono ?_); (case z_1 => exact cb i HB); (case z_2 => exact j.out); rintro e w15 ⟨rfl, hb⟩; replace a := bb a hb; replace HB := bs HB hb; (try clear hb); have al := c2 a) | (go_at_call 80; (with_reducible refine (impl_Net_knot.calls c _ _ b m true _ ?z_1 ?z_2 P.out).mono ?_); (case z_1 => exact cb i HB); (case z_2 => exact j.out); rintro e w17 ⟨rfl, hb⟩; replace a := bb a hb; replace HB := bs HB hb; (try clear hb); have an := c2 a) | ((with_reducible refine gate_callee (f := 85) rfl ?_); refine gl_ (some 26) Try.func85 #[.agg #[.int .i64 c, .slice d b.length g], .int .i64 l, .int .i64 m] ?_; (with_reducible refine (impl_Net_all.calls k c _ _ b l m z _ ?z_1 ?z_2 Z.out).mono ?_); (case z_1 => exact cb i HB); (case z_2 => exact j.out); rintro e w19 ⟨ap, rfl, U, hb⟩; refine ⟨_, rfl, ?_⟩; have aa := am (Kd.S_lower U (below_size (bn HB))); replace a := bb a hb; replace HB := bs HB hb; (try clear hb U)))
    go_ret
    exact ⟨_, er_, onS aa, bn HB⟩
   ·obtain rfl := nt_ T; rw [if_neg nf_] at H; obtain ⟨ab, E⟩ : ∃ y_ : List (List Int), y_ = (([] : List (List Int))) := ⟨_, rfl⟩; replace H : (some ab) = some r := nh_ E H; have W := am E; clear E; obtain rfl := Option.some.inj H; go_enter Try.func76, Try.ntmps76
    go_wp2_with (first | ((with_reducible refine gate_dst (N := 3) rfl ?_); refine bx_ 3 #[.int .i64 c, .slice d b.length g] 25 HB ?_; clear HB; intro B hg w20 hb a D HB; clear hb hg; have aq := c2 a) | ((with_reducible refine gate_callee (f := 67) rfl ?_); refine gl_ (some 8) Try.func67 #[.agg #[.int .i64 c, .slice d b.length g]] ?_; (with_reducible refine (impl_NetOk.calls k c _ _ b true _ ?z_1 ?z_2 t.out).mono ?_); (case z_1 => exact cb i HB); (case z_2 => exact j.out); rintro e w22 ⟨rfl, hb⟩; refine ⟨_, rfl, ?_⟩; replace a := bb a hb; replace HB := bs HB hb; (try clear hb); have ar := c2 a) | (go_at_call 80; (with_reducible refine (impl_Net_knot.calls c _ _ b l true _ ?z_1 ?z_2 A.out).mono ?_); (case z_1 => exact cb i HB); (case z_2 => exact j.out); rintro e w24 ⟨rfl, hb⟩; replace a := bb a hb; replace HB := bs HB hb; (try clear hb); have au := c2 a) | (go_at_call 80; (with_reducible refine (impl_Net_knot.calls c _ _ b m false _ ?z_1 ?z_2 P.out).mono ?_); (case z_1 => exact cb i HB); (case z_2 => exact j.out); rintro e w26 ⟨rfl, hb⟩; replace a := bb a hb; replace HB := bs HB hb; (try clear hb)) | ((with_reducible refine gate_dst (N := 22) rfl ?_); refine Kd.S_lit (Kd.slice 3 (Kd.int .i64)) _ 30 ?hg (N := 22) ?hd (xs := ([] : List (List Int))) (inner := []) (ok := fun _ => True) (okp := fun _ => True) ?hr ?hp (fun _ hk => hk) trivial (Below.refl _ _) (Nat.le_refl _) (by simp) ?_; (case hd => rfl); (case hg => rfl); (case hr => first | (go_simp; done) | (go_simp; rfl)); (case hp => exact (Reps.none _ _)); intro av w27 n hb o p; clear o p; (first | rw [← W.out] at n | (simp only [Int.reduceToNat] at n; rw [← W.out] at n)); have ad := am (Kd.S_lower n (below_size (bn HB))); replace a := bb a hb; replace HB := bs HB hb; clear hb n))
    go_ret
    exact ⟨_, er_, onS ad, bn HB⟩
  ·obtain rfl := nt_ O; rw [if_neg nf_] at H; obtain ⟨ae, G⟩ : ∃ y_ : List (List Int), y_ = (([] : List (List Int))) := ⟨_, rfl⟩; replace H : (some ae) = some r := nh_ G H; have X := am G; clear G; obtain rfl := Option.some.inj H; go_enter Try.func76, Try.ntmps76
   go_wp2_with (first | ((with_reducible refine gate_dst (N := 3) rfl ?_); refine bx_ 3 #[.int .i64 c, .slice d b.length g] 25 HB ?_; clear HB; intro B hg w29 hb a D HB; clear hb hg; have aw := c2 a) | ((with_reducible refine gate_callee (f := 67) rfl ?_); refine gl_ (some 8) Try.func67 #[.agg #[.int .i64 c, .slice d b.length g]] ?_; (with_reducible refine (impl_NetOk.calls k c _ _ b true _ ?z_1 ?z_2 t.out).mono ?_); (case z_1 => exact cb i HB); (case z_2 => exact j.out); rintro e w31 ⟨rfl, hb⟩; refine ⟨_, rfl, ?_⟩; replace a := bb a hb; replace HB := bs HB hb; (try clear hb); have ax := c2 a) | (go_at_call 80; (with_reducible refine (impl_Net_knot.calls c _ _ b l false _ ?z_1 ?z_2 A.out).mono ?_); (case z_1 => exact cb i HB); (case z_2 => exact j.out); rintro e w33 ⟨rfl, hb⟩; replace a := bb a hb; replace HB := bs HB hb; (try clear hb)) | ((with_reducible refine gate_dst (N := 22) rfl ?_); refine Kd.S_lit (Kd.slice 3 (Kd.int .i64)) _ 30 ?hg (N := 22) ?hd (xs := ([] : List (List Int))) (inner := []) (ok := fun _ => True) (okp := fun _ => True) ?hr ?hp (fun _ hk => hk) trivial (Below.refl _ _) (Nat.le_refl _) (by simp) ?_; (case hd => rfl); (case hg => rfl); (case hr => first | (go_simp; done) | (go_simp; rfl)); (case hp => exact (Reps.none _ _)); intro ay w34 q hb o p; clear o p; (first | rw [← X.out] at q | (simp only [Int.reduceToNat] at q; rw [← X.out] at q)); have af := am (Kd.S_lower q (below_size (bn HB))); replace a := bb a hb; replace HB := bs HB hb; clear hb q))
   go_ret
   exact ⟨_, er_, onS af, bn HB⟩
 ·obtain rfl := nt_ M; rw [if_neg nf_] at H; obtain ⟨ag, I⟩ : ∃ y_ : List (List Int), y_ = (([] : List (List Int))) := ⟨_, rfl⟩; replace H : (some ag) = some r := nh_ I H; have Y := am I; clear I; obtain rfl := Option.some.inj H; go_enter Try.func76, Try.ntmps76
  go_wp2_with (first | ((with_reducible refine gate_dst (N := 3) rfl ?_); refine bx_ 3 #[.int .i64 c, .slice d b.length g] 25 HB ?_; clear HB; intro B hg w36 hb a D HB; clear hb hg; have az := c2 a) | ((with_reducible refine gate_callee (f := 67) rfl ?_); refine gl_ (some 8) Try.func67 #[.agg #[.int .i64 c, .slice d b.length g]] ?_; (with_reducible refine (impl_NetOk.calls k c _ _ b false _ ?z_1 ?z_2 t.out).mono ?_); (case z_1 => exact cb i HB); (case z_2 => exact j.out); rintro e w38 ⟨rfl, hb⟩; refine ⟨_, rfl, ?_⟩; replace a := bb a hb; replace HB := bs HB hb; (try clear hb)) | ((with_reducible refine gate_dst (N := 22) rfl ?_); refine Kd.S_lit (Kd.slice 3 (Kd.int .i64)) _ 30 ?hg (N := 22) ?hd (xs := ([] : List (List Int))) (inner := []) (ok := fun _ => True) (okp := fun _ => True) ?hr ?hp (fun _ hk => hk) trivial (Below.refl _ _) (Nat.le_refl _) (by simp) ?_; (case hd => rfl); (case hg => rfl); (case hr => first | (go_simp; done) | (go_simp; rfl)); (case hp => exact (Reps.none _ _)); intro aA w39 s hb o p; clear o p; (first | rw [← Y.out] at s | (simp only [Int.reduceToNat] at s; rw [← Y.out] at s)); have ah := am (Kd.S_lower s (below_size (bn HB))); replace a := bb a hb; replace HB := bs HB hb; clear hb s))
  go_ret
  exact ⟨_, er_, onS ah, bn HB⟩

end Go.Proofs.Ytffflhmblelegaa.F
