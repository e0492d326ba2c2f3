-- By oprint.py.
import Derived.Test.YtffflhmblelegaaF0
import Derived.Test.YtffflhmblelegaaF14
import Derived.Test.YtffflhmblelegaaF18
import Derived.Test.YtffflhmblelegaaF4
namespace Go.Proofs.Ytffflhmblelegaa.F
open Go.RowKit Go.Proofs.YtffflhmblelegaaW.PrintWords Go.Proofs.YtffflhmblelegaaW.PrintLast Go.Proofs.YtffflhmblelegaaW.PrintMore
attribute [local go_sem] max2_int min2_int max_two min_two max_three min_three max_four min_four
set_option linter.unusedVariables false
set_option linter.unusedSimpArgs false
/-! ### impl_Net_walk: function 121 -/
def impl_Net_walk.l0 : Nat → List Int → List Int → Int → Int → Int → List (S52) → Option (Bool)
 | 0, _, _, _, _, _, _ => none
 | k + 1, x1, x7, x8, x9, x433000, x433001 => if x9 < x8 then (if 0 ≤ x9 then (if x9 < (x7.length : Int) then ((impl_Net_knot.f x433000 x433001 (rd x7 x9)).bind fun t434 => (if t434 = true then (if x9 > 0 then (if 0 ≤ (wrap64 (x9 - 1)) then (if (wrap64 (x9 - 1)) < (x1.length : Int) then ((impl_Net_has.f k x433000 x433001 (rd x1 (wrap64 (x9 - 1))) (rd x7 x9)).bind fun t436 => (if t436 = true then (impl_Net_walk.l0 k x1 x7 x8 (wrap64 (x9 + 1)) x433000 x433001) else (some false))) else (none)) else (none)) else (impl_Net_walk.l0 k x1 x7 x8 (wrap64 (x9 + 1)) x433000 x433001)) else (some false))) else (none)) else (none)) else (some true)
def impl_Net_walk.f (k : Nat) (a0_0 : Int) (l0_1 : List (S52)) (l1 : List Int) : Option (Bool) := impl_Net_walk.l0 k l1 l1 (l1.length : Int) 0 a0_0 l0_1
def impl_Net_walk.T4 : Bool × List (List Nat × List Nat) := (true, [([], []), ([], []), ([0, 1], [0, 1]), ([2], [2]), ([3, 2], [3]), ([4], [4]), ([5, 4], [4, 5]), ([6, 4, 4], [4, 6]), ([7], [7]), ([7], [7]), ([7], [7]), ([10, 7], [7, 10]), ([9, 11, 7], [7, 9, 11]), ([12, 7], [7, 12]), ([7], [7]), ([8, 13, 14, 7, 7], [7, 8, 13, 14]), ([15, 7], [7, 15]), ([7, 16, 4], [4, 7, 16]), ([4, 17], [4, 17])])
def impl_Net_walk.B4 : List Nat := [0, 0, 3, 7, 15, 31, 63, 127, 255, 255, 255, 1279, 3839, 7935, 255, 32767, 65535, 131071, 262143]
theorem impl_Net_walk.tab4 : rtab .any (opsOf Try.f121 4) = impl_Net_walk.T4 := by kernel_rfl
theorem impl_Net_walk.bits4 : waitsOk impl_Net_walk.T4.2 impl_Net_walk.B4 = true := by kernel_rfl
set_option maxHeartbeats 8000000 in
set_option maxRecDepth 100000 in
theorem impl_Net_walk.calls (k : Nat) (j : Int) (q : Option Addr) (s : Nat) (g : List (S52)) (W : Option Addr) (O : Nat) (c : List Int) (r : Bool) (w : World) (X : Kd.C k52 w q g.length g) (Y : g.length ≤ s) (Z : Kd.C (Kd.int .i64) w W c.length c) (aa : c.length ≤ O) (h : impl_Net_walk.f k j g c = some r) :
  Calls Try.prog 121 #[.agg #[.int .i64 j, .slice q g.length s], .slice W c.length O] w fun e w' => e = .returned (.bool r) ∧ Below w.heap.size w w' := by
 have ai := Try.underlying25; have B := am X; have D := am Y; clear X Y; have E := am Z; have HC1 := am aa; clear Z aa; have HB := am (Below.refl w.heap.size w)
 have H : (impl_Net_walk.l0 k c c (c.length : Int) 0 j g) = some r := h
 clear h; have H' := am H; clear H; go_enter Try.func121, Try.ntmps121
 go_wp2_with (first | ((with_reducible refine gate_dst (N := 2) rfl ?_); refine bx_ 2 #[.int .i64 j, .slice q g.length s] 25 HB ?_; clear HB; intro ae hg w3 hb b aj HB; clear hb hg))
 go_loopg [9] k (fun kq v9 w' => ∃ (d : Int), v9 = .int .i64 d ∧ Aside0 (impl_Net_walk.l0 kq c c (c.length : Int) d j g = some r) ∧ Aside0 (kq ≤ k) ∧ Bk w' ae (.cells #[.int .i64 j, (.slice q g.length s)] 25 (0, 0)) ∧ Aside0 (Below w.heap.size w w'))
 case atStart => exact ⟨(0), rs_, H', ⟨Nat.le_refl _⟩, ⟨bkn b⟩, ⟨bn HB⟩⟩
 case round =>
  clear H'; (try clear O); obtain ⟨d, rfl, HA, M, b, HB⟩ := hrel; cases gk with
  | zero => exact absurd HA.out (by simp [impl_Net_walk.l0])
  | succ k1 =>
   have H := HA.out; clear HA; simp only [impl_Net_walk.l0] at H; by_cases G : d < (c.length : Int)
   ·rw [if_pos G] at H; have af := decide_eq_true G; clear G; obtain ⟨ak, H⟩ := id_ H; obtain ⟨al, H⟩ := id_ H; obtain ⟨ag, J, H⟩ := bi_ H; by_cases c8 : ag = true
    ·subst c8; rw [if_pos rfl] at H; by_cases I : d > 0
     ·rw [if_pos I] at H; have ah := decide_eq_true I; clear I; obtain ⟨n, u⟩ : ∃ j_ : Int, (wrap64 (d - 1)) = j_ := ⟨_, rfl⟩; replace H : (if 0 ≤ (n) then (if (n) < (c.length : Int) then ((impl_Net_has.f k1 j g (rd c (n)) (rd c d)).bind fun P => (if P = true then (impl_Net_walk.l0 k1 c c (c.length : Int) (wrap64 (d + 1)) j g) else (some false))) else (none)) else (none)) = some r := by first | (rw [u] at H; exact H) | (simp only [u] at H ⊢; exact H)
      (try rw [u] at J); have hji10w : (IntKind.i64.wrap (d - 1)) = n := (i64_w _).trans u; obtain ⟨an, H⟩ := id_ H; obtain ⟨ap, H⟩ := id_ H; obtain ⟨P, ab, H⟩ := bi_ H; by_cases ad : P = true
      ·subst ad; rw [if_pos rfl] at H; have H' := am H; clear H; have l : 0 ≤ (d : Int) := oa; have m : d < (c.length : Int) := oa; obtain ⟨L, x, o⟩ := Kd.at_int E.out d l m; cases x; replace o := hc_ HB o; obtain ⟨l, m⟩ := e2_ l m; try go_wp2
       replace b := dB b; replace HB := dL HB; have y : 0 ≤ ((n) : Int) := oa; have z : (n) < (c.length : Int) := oa; obtain ⟨T, U, t⟩ := Kd.at_int E.out (n) y z; have A := t; obtain rfl : L = T := (by injection U); replace t := hc_ HB t; obtain ⟨y, z⟩ := e2_ y z; refine s3_ 19 [] (bq b 0) (bq b 1) (hb_ HB A) (fun i => ?_); refine with_tabW impl_Net_walk.tab4 impl_Net_walk.bits4 (fun a p => ?_); generalize wr.drew = w15 at b HB t i ⊢; refine pz_ 1 a ?_; refine tz_ 0 a p i ?_; refine on_ 2 a (fun K hK => ?_); refine gg_ Try.func80 #[.agg #[.int .i64 j, .slice q g.length s], .int .i64 (rd c d)] ?_
       with_reducible refine (impl_Net_knot.calls j _ _ g (rd c d) true _ ?z_1 ?z_2 J.out).mono ?_
       (case z_1 => exact cb B HB); (case z_2 => exact D.out); rintro e w16 ⟨rfl, hb⟩; refine ⟨_, rfl, ?_⟩; replace b := bb b hb; replace HB := bs HB hb; (try clear hb); refine hK.out _ _ ⟨(bc b 0), (bc b 1), (hb_ HB A)⟩ (fun i => ?_); clear hK K; refine nz_ 16 ?_; refine pz_ 3 a ?_; refine pz_ 4 a ?_; refine pz_ 5 a ?_; refine pz_ 6 a ?_; refine pz_ 7 a ?_; refine pz_ 9 a ?_; refine pz_ 10 a ?_; refine pz_ 11 a ?_; refine pz_ 12 a ?_; refine pz_ 14 a ?_; refine tz_ 8 a p i ?_; refine tz_ 13 a p i ?_; refine on_ 15 a (fun K hK => ?_); refine goes_ Try.func81 (by kernel_rfl) rfl #[.agg #[.int .i64 j, .slice q g.length s], .int .i64 (rd c (n)), .int .i64 (rd c d)] (by rfl) rfl rfl (by (try simp only [List.map_toArray, List.map_cons, List.map_nil]); first | done | (simp only [u]; rfl) | rfl | (simp only [List.length_drop, List.length_take]; rfl)) ?_
       with_reducible refine (impl_Net_has.calls k1 j _ _ g (rd c (n)) (rd c d) true _ ?z_1 ?z_2 ab.out).mono ?_
       (case z_1 => exact cb B HB); (case z_2 => exact D.out); rintro e w17 ⟨rfl, hb⟩; refine ⟨_, rfl, ?_⟩; replace b := bb b hb; replace HB := bs HB hb; (try clear hb); refine hK.out _ _ ⟨(bc b 0), (bc b 1), (hb_ HB A)⟩ (fun i => ?_); clear hK K; refine nz_ 29 ?_; refine pz_ 16 a ?_; refine pz_ 17 a ?_; refine pz_ 18 a ?_; refine done_ (done_of a.out (by kernel_rfl)) ?_; try go_wp2
       go_roundg k1
       case measure => have := M.out; omega
       case rel => exact ⟨(wrap64 (d + 1)), rs_, H', ⟨by have := M.out; omega⟩, ⟨bkn b⟩, ⟨bn HB⟩⟩
      ·obtain rfl := nt_ ad; rw [if_neg nf_] at H; obtain rfl := Option.some.inj H; have l : 0 ≤ (d : Int) := oa; have m : d < (c.length : Int) := oa; obtain ⟨L, x, o⟩ := Kd.at_int E.out d l m; cases x; replace o := hc_ HB o; obtain ⟨l, m⟩ := e2_ l m; try go_wp2
       replace b := dB b; replace HB := dL HB; have y : 0 ≤ ((n) : Int) := oa; have z : (n) < (c.length : Int) := oa; obtain ⟨T, U, t⟩ := Kd.at_int E.out (n) y z; have A := t; obtain rfl : L = T := (by injection U); replace t := hc_ HB t; obtain ⟨y, z⟩ := e2_ y z; refine s3_ 19 [] (bq b 0) (bq b 1) (hb_ HB A) (fun i => ?_); refine with_tabW impl_Net_walk.tab4 impl_Net_walk.bits4 (fun a p => ?_); generalize wr.drew = w18 at b HB t i ⊢; refine pz_ 1 a ?_; refine tz_ 0 a p i ?_; refine on_ 2 a (fun K hK => ?_); refine gg_ Try.func80 #[.agg #[.int .i64 j, .slice q g.length s], .int .i64 (rd c d)] ?_
       with_reducible refine (impl_Net_knot.calls j _ _ g (rd c d) true _ ?z_1 ?z_2 J.out).mono ?_
       (case z_1 => exact cb B HB); (case z_2 => exact D.out); rintro e w19 ⟨rfl, hb⟩; refine ⟨_, rfl, ?_⟩; replace b := bb b hb; replace HB := bs HB hb; (try clear hb); refine hK.out _ _ ⟨(bc b 0), (bc b 1), (hb_ HB A)⟩ (fun i => ?_); clear hK K; refine nz_ 16 ?_; refine pz_ 3 a ?_; refine pz_ 4 a ?_; refine pz_ 5 a ?_; refine pz_ 6 a ?_; refine pz_ 7 a ?_; refine pz_ 9 a ?_; refine pz_ 10 a ?_; refine pz_ 11 a ?_; refine pz_ 12 a ?_; refine pz_ 14 a ?_; refine tz_ 8 a p i ?_; refine tz_ 13 a p i ?_; refine on_ 15 a (fun K hK => ?_); refine goes_ Try.func81 (by kernel_rfl) rfl #[.agg #[.int .i64 j, .slice q g.length s], .int .i64 (rd c (n)), .int .i64 (rd c d)] (by rfl) rfl rfl (by (try simp only [List.map_toArray, List.map_cons, List.map_nil]); first | done | (simp only [u]; rfl) | rfl | (simp only [List.length_drop, List.length_take]; rfl)) ?_
       with_reducible refine (impl_Net_has.calls k1 j _ _ g (rd c (n)) (rd c d) false _ ?z_1 ?z_2 ab.out).mono ?_
       (case z_1 => exact cb B HB); (case z_2 => exact D.out); rintro e w20 ⟨rfl, hb⟩; refine ⟨_, rfl, ?_⟩; replace b := bb b hb; replace HB := bs HB hb; (try clear hb); refine hK.out _ _ ⟨(bc b 0), (bc b 1), (hb_ HB A)⟩ (fun i => ?_); clear hK K; refine nz_ 29 ?_; refine pz_ 16 a ?_; refine pz_ 17 a ?_; refine pz_ 18 a ?_; refine done_ (done_of a.out (by kernel_rfl)) ?_; try go_wp2
       go_ret
       exact ⟨by first | rfl | (simp [errW_none, errW_some] <;> rfl) | (simp only [← u]; first | rfl | (simp [errW_none, errW_some] <;> rfl)) | (simp [*, errW_none, errW_some] <;> rfl), bn HB⟩
     ·rw [if_neg I] at H; have ah := decide_eq_false I; clear I; have H' := am H; clear H; have l : 0 ≤ (d : Int) := oa; have m : d < (c.length : Int) := oa; obtain ⟨L, x, o⟩ := Kd.at_int E.out d l m; cases x; replace o := hc_ HB o; obtain ⟨l, m⟩ := e2_ l m; try go_wp2
      replace b := dB b; replace HB := dL HB; refine s2_ 19 [] (bq b 0) (bq b 1) (fun i => ?_); refine with_tabW impl_Net_walk.tab4 impl_Net_walk.bits4 (fun a p => ?_); generalize wr.drew = w21 at b HB i ⊢; refine pz_ 1 a ?_; refine tz_ 0 a p i ?_; refine on_ 2 a (fun K hK => ?_); refine gg_ Try.func80 #[.agg #[.int .i64 j, .slice q g.length s], .int .i64 (rd c d)] ?_
      with_reducible refine (impl_Net_knot.calls j _ _ g (rd c d) true _ ?z_1 ?z_2 J.out).mono ?_
      (case z_1 => exact cb B HB); (case z_2 => exact D.out); rintro e w22 ⟨rfl, hb⟩; refine ⟨_, rfl, ?_⟩; replace b := bb b hb; replace HB := bs HB hb; (try clear hb); refine hK.out _ _ ⟨(bc b 0), (bc b 1)⟩ (fun i => ?_); clear hK K; refine nz_ 16 ?_; refine pz_ 3 a ?_; refine pz_ 4 a ?_; refine pz_ 5 a ?_; refine pz_ 6 a ?_; refine pz_ 7 a ?_; refine pu_ 8 a ?_; refine pu_ 9 a ?_; refine pu_ 10 a ?_; refine pu_ 11 a ?_; refine pu_ 12 a ?_; refine pu_ 13 a ?_; refine pu_ 14 a ?_; refine pu_ 15 a ?_; refine pu_ 16 a ?_; refine pz_ 17 a ?_; refine pz_ 18 a ?_; refine done_ (done_of a.out (by kernel_rfl)) ?_; try go_wp2
      go_roundg k1
      case measure => have := M.out; omega
      case rel => exact ⟨(wrap64 (d + 1)), rs_, H', ⟨by have := M.out; omega⟩, ⟨bkn b⟩, ⟨bn HB⟩⟩
    ·obtain rfl := nt_ c8; rw [if_neg nf_] at H; obtain rfl := Option.some.inj H; have l : 0 ≤ (d : Int) := oa; have m : d < (c.length : Int) := oa; obtain ⟨L, x, o⟩ := Kd.at_int E.out d l m; cases x; replace o := hc_ HB o; obtain ⟨l, m⟩ := e2_ l m; try go_wp2
     replace b := dB b; replace HB := dL HB; refine s2_ 19 [] (bq b 0) (bq b 1) (fun i => ?_); refine with_tabW impl_Net_walk.tab4 impl_Net_walk.bits4 (fun a p => ?_); generalize wr.drew = w23 at b HB i ⊢; refine pz_ 1 a ?_; refine tz_ 0 a p i ?_; refine on_ 2 a (fun K hK => ?_); refine gg_ Try.func80 #[.agg #[.int .i64 j, .slice q g.length s], .int .i64 (rd c d)] ?_
     with_reducible refine (impl_Net_knot.calls j _ _ g (rd c d) false _ ?z_1 ?z_2 J.out).mono ?_
     (case z_1 => exact cb B HB); (case z_2 => exact D.out); rintro e w24 ⟨rfl, hb⟩; refine ⟨_, rfl, ?_⟩; replace b := bb b hb; replace HB := bs HB hb; (try clear hb); refine hK.out _ _ ⟨(bc b 0), (bc b 1)⟩ (fun i => ?_); clear hK K; refine nz_ 16 ?_; refine pz_ 3 a ?_; refine pz_ 4 a ?_; refine pu_ 5 a ?_; refine pu_ 6 a ?_; refine pu_ 7 a ?_; refine pu_ 8 a ?_; refine pu_ 9 a ?_; refine pu_ 10 a ?_; refine pu_ 11 a ?_; refine pu_ 12 a ?_; refine pu_ 13 a ?_; refine pu_ 14 a ?_; refine pu_ 15 a ?_; refine pu_ 16 a ?_; refine pu_ 17 a ?_; refine pz_ 18 a ?_; refine done_ (done_of a.out (by kernel_rfl)) ?_; try go_wp2
     go_ret
     exact ⟨er_, bn HB⟩
   ·rw [if_neg G] at H; have af := decide_eq_false G; clear G; obtain rfl := Option.some.inj H; go_wp2
    go_ret
    exact ⟨er_, bn HB⟩
/-! ### impl_different: function 122 -/
def impl_different.l0 : Nat → List Int → List Int → Int → Int → Option (Bool)
 | 0, _, _, _, _ => none
 | k + 1, x0, x5, x6, x7 => if x7 < x6 then (if 0 ≤ x7 then (if x7 < (x5.length : Int) then (if x7 ≤ (x0.length : Int) then ((slices_Contains_int_int.f k (x0.take (x7 : Int).toNat) (rd x5 x7)).bind fun t441 => (if t441 = true then (some false) else (impl_different.l0 k x0 x5 x6 (wrap64 (x7 + 1))))) else (none)) else (none)) else (none)) else (some true)
def impl_different.f (k : Nat) (l0 : List Int) : Option (Bool) := impl_different.l0 k l0 l0 (l0.length : Int) 0
set_option maxHeartbeats 8000000 in
set_option maxRecDepth 100000 in
theorem impl_different.calls (k : Nat) (o : Option Addr) (d : Nat) (l0 : List Int) (r : Bool) (w : World) (p : Kd.C (Kd.int .i64) w o l0.length l0) (q : l0.length ≤ d) (h : impl_different.f k l0 = some r) :
  Calls Try.prog 122 #[.slice o l0.length d] w fun e w' => e = .returned (.bool r) ∧ Drawn0 w w' := by
 have i := am p; have s := am q; clear p q
 have H : (impl_different.l0 k l0 l0 (l0.length : Int) 0) = some r := h
 clear h; have H' := am H; clear H; go_enter Try.func122, Try.ntmps122; go_wp2
 go_loopg [7] k (fun kq J w' => ∃ (a : Int), J = .int .i64 a ∧ Aside0 (impl_different.l0 kq l0 l0 (l0.length : Int) a = some r) ∧ Aside0 (kq ≤ k) ∧ Drawn0 w w')
 case atStart => exact ⟨(0), rs_, H', ⟨Nat.le_refl _⟩, by repeat (first | exact Drawn0.refl _ | apply Drawn0.step)⟩
 case round =>
  clear H'; obtain ⟨a, rfl, HA, t, ⟨m1, rfl⟩⟩ := hrel; cases gk with
  | zero => exact absurd HA.out (by simp [impl_different.l0])
  | succ k1 =>
   have H := HA.out; clear HA; simp only [impl_different.l0] at H; by_cases c2 : a < (l0.length : Int)
   ·rw [if_pos c2] at H; have K := decide_eq_true c2; clear c2; obtain ⟨T, H⟩ := id_ H; obtain ⟨U, H⟩ := id_ H; have W := eq_true (oa : 0 ≤ a); obtain ⟨j, H⟩ := ig_ H; have X := eq_true j; have Y := decide_eq_true j; clear j; obtain ⟨L, u, H⟩ := bi_ H; by_cases x : L = true
    ·subst x; rw [if_pos rfl] at H; obtain rfl := Option.some.inj H; have b : 0 ≤ (a : Int) := oa; have c : a < (l0.length : Int) := oa; obtain ⟨g, l, M⟩ := Kd.at_int i.out a b c; cases l; obtain ⟨b, c⟩ := e2_ b c; obtain ⟨i09, y, _, z, _⟩ := info_parts info3; obtain ⟨Z, A, B⟩ := print_take_of (P := Try.prog) (Value.int .i64) 0 30 3 .i64 Try.underlying30 y z (some g) d l0 a (oa) (oa) s.out; have m := am (Kd.C_of_reads (h1 := fun _ => rfl) (A _ (Kd.reads_of_C i.out))); have n := am B; clear A B y z
     go_wp2_with (first | ((with_reducible refine gate_callee (f := 111) rfl ?_); refine goesL_ (some 16) rfl rfl Try.func111 (by kernel_rfl) rfl #[.slice (some g) (l0.take (a : Int).toNat).length d, .int .i64 (rd l0 a)] rfl (by (try simp only [List.map_toArray, List.map_cons, List.map_nil]); first | done | (rw [show (l0.take (a : Int).toNat).length = a.toNat from (by rw [List.length_take]; have O : (a : Int) ≤ (l0.length : Int) := oa; omega)] <;> rfl) | rfl | (simp only [List.length_drop, List.length_take]; rfl)) ?_; (with_reducible refine (slices_Contains_int_int.calls k1 _ _ (l0.take (a : Int).toNat) (rd l0 a) true _ ?z_1 ?z_2 u.out).mono ?_); (case z_1 => repeat (first | exact m.out | (with_reducible refine Kd.C_alloc ?_ _) | (with_reducible refine Kd.C_drewN ?_ _) | (with_reducible refine Kd.C_drew ?_))); (case z_2 => exact n.out); rintro e w' ⟨rfl, ⟨nd, rfl⟩⟩; refine ⟨_, rfl, ?_⟩))
     go_ret
     exact ⟨rs_, by repeat (first | exact Drawn0.refl _ | apply Drawn0.step)⟩
    ·obtain rfl := nt_ x; rw [if_neg nf_] at H; have H' := am H; clear H; have b : 0 ≤ (a : Int) := oa; have c : a < (l0.length : Int) := oa; obtain ⟨g, l, M⟩ := Kd.at_int i.out a b c; cases l; obtain ⟨b, c⟩ := e2_ b c; obtain ⟨aa, D, _, E, _⟩ := info_parts info3; obtain ⟨ab, G, I⟩ := print_take_of (P := Try.prog) (Value.int .i64) 0 30 3 .i64 Try.underlying30 D E (some g) d l0 a (oa) (oa) s.out; have m := am (Kd.C_of_reads (h1 := fun _ => rfl) (G _ (Kd.reads_of_C i.out))); have n := am I; clear G I D E
     go_wp2_with (first | ((with_reducible refine gate_callee (f := 111) rfl ?_); refine goesL_ (some 16) rfl rfl Try.func111 (by kernel_rfl) rfl #[.slice (some g) (l0.take (a : Int).toNat).length d, .int .i64 (rd l0 a)] rfl (by (try simp only [List.map_toArray, List.map_cons, List.map_nil]); first | done | (rw [show (l0.take (a : Int).toNat).length = a.toNat from (by rw [List.length_take]; have O : (a : Int) ≤ (l0.length : Int) := oa; omega)] <;> rfl) | rfl | (simp only [List.length_drop, List.length_take]; rfl)) ?_; (with_reducible refine (slices_Contains_int_int.calls k1 _ _ (l0.take (a : Int).toNat) (rd l0 a) false _ ?z_1 ?z_2 u.out).mono ?_); (case z_1 => repeat (first | exact m.out | (with_reducible refine Kd.C_alloc ?_ _) | (with_reducible refine Kd.C_drewN ?_ _) | (with_reducible refine Kd.C_drew ?_))); (case z_2 => exact n.out); rintro e w' ⟨rfl, ⟨nd, rfl⟩⟩; refine ⟨_, rfl, ?_⟩))
     go_roundg k1
     case measure => have := t.out; omega
     case rel => exact ⟨(wrap64 (a + 1)), rs_, H', ⟨by have := t.out; omega⟩, by repeat (first | exact Drawn0.refl _ | apply Drawn0.step)⟩
   ·rw [if_neg c2] at H; have K := decide_eq_false c2; clear c2; obtain rfl := Option.some.inj H; go_wp2
    go_ret
    exact ⟨rs_, by repeat (first | exact Drawn0.refl _ | apply Drawn0.step)⟩
/-! ### impl_WayOk: function 95 -/
def impl_WayOk.f (k : Nat) (a0_0 : Int) (l0_1 : List (S52)) (l1 : List Int) : Option (Bool) := (impl_NetOk.f k a0_0 l0_1).bind fun t443 => (if t443 = true then (if (l1.length : Int) > 0 then ((impl_Net_walk.f k a0_0 l0_1 l1).bind fun t444 => (if t444 = true then ((impl_different.f k l1).bind fun t445 => (some t445)) else (some false))) else (some false)) else (some false))
set_option maxHeartbeats 8000000 in
set_option maxRecDepth 100000 in
theorem impl_WayOk.calls (k : Nat) (c : Int) (g : Option Addr) (i : Nat) (a : List (S52)) (y : Option Addr) (z : Nat) (d : List Int) (r : Bool) (w : World) (A : Kd.C k52 w g a.length a) (B : a.length ≤ i) (D : Kd.C (Kd.int .i64) w y d.length d) (E : d.length ≤ z) (h : impl_WayOk.f k c a d = some r) :
  Calls Try.prog 95 #[.agg #[.int .i64 c, .slice g a.length i], .slice y d.length z] w fun e w' => e = .returned (.bool r) ∧ Below w.heap.size w w' := by
 have O := Try.underlying25; have j := am A; have l := am B; clear A B; have o := am D; have p := am E; clear D E; have HB := am (Below.refl w.heap.size w)
 have H : ((impl_NetOk.f k c a).bind fun q => (if q = true then (if (d.length : Int) > 0 then ((impl_Net_walk.f k c a d).bind fun s => (if s = true then ((impl_different.f k d).bind fun t => (some t)) else (some false))) else (some false)) else (some false))) = some r := h
 clear h; obtain ⟨q, n, H⟩ := bi_ H; by_cases G : q = true
 ·subst G; rw [if_pos rfl] at H; by_cases m : (d.length : Int) > 0
  ·rw [if_pos m] at H; have K := decide_eq_true m; have L : decide (0 < d.length) = true := decide_eq_true (by omega); clear m; obtain ⟨s, I, H⟩ := bi_ H; by_cases J : s = true
   ·subst J; rw [if_pos rfl] at H; obtain ⟨t, M, H⟩ := bi_ H; obtain rfl := Option.some.inj H; go_enter Try.func95, Try.ntmps95
    go_wp2_with (first | ((with_reducible refine gate_dst (N := 2) rfl ?_); refine bx_ 2 #[.int .i64 c, .slice g a.length i] 25 HB ?_; clear HB; intro u hg w9 hb b x HB; clear hb hg; have P := c2 b) | ((with_reducible refine gate_callee (f := 67) rfl ?_); refine gl_ (some 6) Try.func67 #[.agg #[.int .i64 c, .slice g a.length i]] ?_; (with_reducible refine (impl_NetOk.calls k c _ _ a true _ ?z_1 ?z_2 n.out).mono ?_); (case z_1 => exact cb j HB); (case z_2 => exact l.out); rintro e w11 ⟨rfl, hb⟩; refine ⟨_, rfl, ?_⟩; replace b := bb b hb; replace HB := bs HB hb; (try clear hb); have T := c2 b) | (go_at_call 121; (with_reducible refine (impl_Net_walk.calls k c _ _ a _ _ d true _ ?z_1 ?z_2 ?z_3 ?z_4 I.out).mono ?_); (case z_1 => exact cb j HB); (case z_2 => exact l.out); (case z_3 => exact cb o HB); (case z_4 => exact p.out); rintro e w13 ⟨rfl, hb⟩; replace b := bb b hb; replace HB := bs HB hb; (try clear hb)) | (go_at_call 122; (with_reducible refine (impl_different.calls k _ _ d t _ ?z_1 ?z_2 M.out).mono ?_); (case z_1 => exact cb o HB); (case z_2 => exact p.out); rintro e w' ⟨rfl, ⟨nd, rfl⟩⟩))
    go_ret
    exact ⟨er_, bn HB⟩
   ·obtain rfl := nt_ J; rw [if_neg nf_] at H; obtain rfl := Option.some.inj H; go_enter Try.func95, Try.ntmps95
    go_wp2_with (first | ((with_reducible refine gate_dst (N := 2) rfl ?_); refine bx_ 2 #[.int .i64 c, .slice g a.length i] 25 HB ?_; clear HB; intro u hg w14 hb b x HB; clear hb hg; have U := c2 b) | ((with_reducible refine gate_callee (f := 67) rfl ?_); refine gl_ (some 6) Try.func67 #[.agg #[.int .i64 c, .slice g a.length i]] ?_; (with_reducible refine (impl_NetOk.calls k c _ _ a true _ ?z_1 ?z_2 n.out).mono ?_); (case z_1 => exact cb j HB); (case z_2 => exact l.out); rintro e w16 ⟨rfl, hb⟩; refine ⟨_, rfl, ?_⟩; replace b := bb b hb; replace HB := bs HB hb; (try clear hb); have W := c2 b) | (go_at_call 121; (with_reducible refine (impl_Net_walk.calls k c _ _ a _ _ d false _ ?z_1 ?z_2 ?z_3 ?z_4 I.out).mono ?_); (case z_1 => exact cb j HB); (case z_2 => exact l.out); (case z_3 => exact cb o HB); (case z_4 => exact p.out); rintro e w18 ⟨rfl, hb⟩; replace b := bb b hb; replace HB := bs HB hb; (try clear hb)))
    go_ret
    exact ⟨er_, bn HB⟩
  ·rw [if_neg m] at H; have K := decide_eq_false m; have L : decide (0 < d.length) = false := decide_eq_false (by omega); clear m; obtain rfl := Option.some.inj H; go_enter Try.func95, Try.ntmps95
   go_wp2_with (first | ((with_reducible refine gate_dst (N := 2) rfl ?_); refine bx_ 2 #[.int .i64 c, .slice g a.length i] 25 HB ?_; clear HB; intro u hg w19 hb b x HB; clear hb hg; have X := c2 b) | ((with_reducible refine gate_callee (f := 67) rfl ?_); refine gl_ (some 6) Try.func67 #[.agg #[.int .i64 c, .slice g a.length i]] ?_; (with_reducible refine (impl_NetOk.calls k c _ _ a true _ ?z_1 ?z_2 n.out).mono ?_); (case z_1 => exact cb j HB); (case z_2 => exact l.out); rintro e w21 ⟨rfl, hb⟩; refine ⟨_, rfl, ?_⟩; replace b := bb b hb; replace HB := bs HB hb; (try clear hb)))
   go_ret
   exact ⟨er_, bn HB⟩
 ·obtain rfl := nt_ G; rw [if_neg nf_] at H; obtain rfl := Option.some.inj H; go_enter Try.func95, Try.ntmps95
  go_wp2_with (first | ((with_reducible refine gate_dst (N := 2) rfl ?_); refine bx_ 2 #[.int .i64 c, .slice g a.length i] 25 HB ?_; clear HB; intro u hg w22 hb b x HB; clear hb hg; have Y := c2 b) | ((with_reducible refine gate_callee (f := 67) rfl ?_); refine gl_ (some 6) Try.func67 #[.agg #[.int .i64 c, .slice g a.length i]] ?_; (with_reducible refine (impl_NetOk.calls k c _ _ a false _ ?z_1 ?z_2 n.out).mono ?_); (case z_1 => exact cb j HB); (case z_2 => exact l.out); rintro e w24 ⟨rfl, hb⟩; refine ⟨_, rfl, ?_⟩; replace b := bb b hb; replace HB := bs HB hb; (try clear hb)))
  go_ret
  exact ⟨er_, bn HB⟩
/-! ### impl_leads: function 52 -/
def impl_leads.f (k : Nat) (a0_0 : Int) (l0_1 : List (S52)) (l1 : List Int) (a2 : Int) (a3 : Int) : Option (Bool) := (impl_WayOk.f k a0_0 l0_1 l1).bind fun t447 => (if t447 = true then (if 0 < (l1.length : Int) then (if (rd l1 0) = a2 then (if 0 ≤ (wrap64 ((l1.length : Int) - 1)) then (if (wrap64 ((l1.length : Int) - 1)) < (l1.length : Int) then (some ((rd l1 (wrap64 ((l1.length : Int) - 1))) == a3)) else (none)) else (none)) else (some false)) else (none)) else (some false))
set_option maxHeartbeats 8000000 in
set_option maxRecDepth 100000 in
theorem impl_leads.calls (k : Nat) (c : Int) (i : Option Addr) (j : Nat) (b : List (S52)) (s : Option Addr) (t : Nat) (a : List Int) (l : Int) (x : Int) (r : Bool) (w : World) (J : Kd.C k52 w i b.length b) (K : b.length ≤ j) (L : Kd.C (Kd.int .i64) w s a.length a) (M : a.length ≤ t) (h : impl_leads.f k c b a l x = some r) :
  Calls Try.prog 52 #[.agg #[.int .i64 c, .slice i b.length j], .slice s a.length t, .int .i64 l, .int .i64 x] w fun e w' => e = .returned (.bool r) ∧ Below w.heap.size w w' := by
 have ae := Try.underlying25; have z := am J; have A := am K; clear J K; have q := am L; have B := am M; clear L M; have HB := am (Below.refl w.heap.size w)
 have H : ((impl_WayOk.f k c b a).bind fun D => (if D = true then (if 0 < (a.length : Int) then (if (rd a 0) = l then (if 0 ≤ (wrap64 ((a.length : Int) - 1)) then (if (wrap64 ((a.length : Int) - 1)) < (a.length : Int) then (some ((rd a (wrap64 ((a.length : Int) - 1))) == x)) else (none)) else (none)) else (some false)) else (none)) else (some false))) = some r := h
 clear h; obtain ⟨D, y, H⟩ := bi_ H; by_cases O : D = true
 ·subst O; rw [if_pos rfl] at H; obtain ⟨P, H⟩ := ig_ H; have af := decide_eq_true P; have ag : decide (0 < a.length) = true := decide_eq_true (by omega); clear P; by_cases m : (rd a 0) = l
  ·rw [if_pos m] at H; have Y : ((rd a 0) == l) = true := beq_iff_eq.mpr m; have Z : ((rd a 0) != l) = false := bne_eq_false_iff_eq.mpr m; clear m; obtain ⟨n, u⟩ : ∃ j_ : Int, (wrap64 ((a.length : Int) - 1)) = j_ := ⟨_, rfl⟩; replace H : (if 0 ≤ (n) then (if (n) < (a.length : Int) then (some ((rd a (n)) == x)) else (none)) else (none)) = some r := by first | (rw [u] at H; exact H) | (simp only [u] at H ⊢; exact H)
   (try rw [u] at y); have hji9w : (IntKind.i64.wrap ((a.length : Int) - 1)) = n := (i64_w _).trans u; obtain ⟨ah, H⟩ := id_ H; obtain ⟨ai, H⟩ := id_ H; obtain rfl := Option.some.inj H; go_enter Try.func52, Try.ntmps52
   go_wp2_with (first | ((with_reducible refine gate_dst (N := 4) rfl ?_); refine bx_ 4 #[.int .i64 c, .slice i b.length j] 25 HB ?_; clear HB; intro T hg w12 hb d U HB; clear hb hg; have aj := c2 d) | ((with_reducible refine gate_callee (f := 95) rfl ?_); refine gl_ (some 11) Try.func95 #[.agg #[.int .i64 c, .slice i b.length j], .slice s a.length t] ?_; (with_reducible refine (impl_WayOk.calls k c _ _ b _ _ a true _ ?z_1 ?z_2 ?z_3 ?z_4 y.out).mono ?_); (case z_1 => exact cb z HB); (case z_2 => exact A.out); (case z_3 => exact cb q HB); (case z_4 => exact B.out); rintro e w14 ⟨rfl, hb⟩; refine ⟨_, rfl, ?_⟩; replace d := bb d hb; replace HB := bs HB hb; (try clear hb); have o : 0 ≤ (0 : Int) := (by omega); have p : 0 < (a.length : Int) := oa; obtain ⟨W, E, g⟩ := Kd.at_int q.out 0 o p; cases E; have aa : (0 < a.length) = True := eq_true (by omega); (try rw [show ((0 : Int)).toNat = 0 from rfl] at g); (try rw [Addr.add_zero'] at g); replace g := hc_ HB g; obtain ⟨o, p⟩ := e2_ o p; have G : 0 ≤ ((n) : Int) := oa; have I : (n) < (a.length : Int) := oa; obtain ⟨ab, ad, X⟩ := Kd.at_int q.out (n) G I; obtain rfl : W = ab := (by injection ad); replace X := hc_ HB X; obtain ⟨G, I⟩ := e2_ G I))
   go_ret
   exact ⟨by first | rfl | (simp [errW_none, errW_some] <;> rfl) | (simp only [← u]; first | rfl | (simp [errW_none, errW_some] <;> rfl)) | (simp [*, errW_none, errW_some] <;> rfl), bn HB⟩
  ·rw [if_neg m] at H; have Y : ((rd a 0) == l) = false := beq_eq_false_iff_ne.mpr m; have Z : ((rd a 0) != l) = true := bne_iff_ne.mpr m; obtain rfl := Option.some.inj H; go_enter Try.func52, Try.ntmps52
   go_wp2_with (first | ((with_reducible refine gate_dst (N := 4) rfl ?_); refine bx_ 4 #[.int .i64 c, .slice i b.length j] 25 HB ?_; clear HB; intro T hg w15 hb d U HB; clear hb hg; have ak := c2 d) | ((with_reducible refine gate_callee (f := 95) rfl ?_); refine gl_ (some 11) Try.func95 #[.agg #[.int .i64 c, .slice i b.length j], .slice s a.length t] ?_; (with_reducible refine (impl_WayOk.calls k c _ _ b _ _ a true _ ?z_1 ?z_2 ?z_3 ?z_4 y.out).mono ?_); (case z_1 => exact cb z HB); (case z_2 => exact A.out); (case z_3 => exact cb q HB); (case z_4 => exact B.out); rintro e w17 ⟨rfl, hb⟩; refine ⟨_, rfl, ?_⟩; replace d := bb d hb; replace HB := bs HB hb; (try clear hb); have o : 0 ≤ (0 : Int) := (by omega); have p : 0 < (a.length : Int) := oa; obtain ⟨W, E, g⟩ := Kd.at_int q.out 0 o p; cases E; have aa : (0 < a.length) = True := eq_true (by omega); (try rw [show ((0 : Int)).toNat = 0 from rfl] at g); (try rw [Addr.add_zero'] at g); replace g := hc_ HB g; obtain ⟨o, p⟩ := e2_ o p))
   go_ret
   exact ⟨er_, bn HB⟩
 ·obtain rfl := nt_ O; rw [if_neg nf_] at H; obtain rfl := Option.some.inj H; go_enter Try.func52, Try.ntmps52
  go_wp2_with (first | ((with_reducible refine gate_dst (N := 4) rfl ?_); refine bx_ 4 #[.int .i64 c, .slice i b.length j] 25 HB ?_; clear HB; intro T hg w18 hb d U HB; clear hb hg; have al := c2 d) | ((with_reducible refine gate_callee (f := 95) rfl ?_); refine gl_ (some 11) Try.func95 #[.agg #[.int .i64 c, .slice i b.length j], .slice s a.length t] ?_; (with_reducible refine (impl_WayOk.calls k c _ _ b _ _ a false _ ?z_1 ?z_2 ?z_3 ?z_4 y.out).mono ?_); (case z_1 => exact cb z HB); (case z_2 => exact A.out); (case z_3 => exact cb q HB); (case z_4 => exact B.out); rintro e w20 ⟨rfl, hb⟩; refine ⟨_, rfl, ?_⟩; replace d := bb d hb; replace HB := bs HB hb; (try clear hb)))
  go_ret
  exact ⟨er_, bn HB⟩
end Go.Proofs.Ytffflhmblelegaa.F
