-- Written by oprint.py (wip/tools) over the kit's print program, for this seat.
import Derived.Test.YtdlnnjgjfngccaaF0
namespace Go.Proofs.Ytdlnnjgjfngccaa.F
open Go.RowKit Go.Proofs.YtdlnnjgjfngccaaW.PrintWords Go.Proofs.YtdlnnjgjfngccaaW.PrintLast Go.Proofs.YtdlnnjgjfngccaaW.PrintMore
attribute [local go_sem] max2_int min2_int max_two min_two max_three min_three max_four min_four   -- for this text's walks alone
set_option linter.unusedVariables false
set_option linter.unusedSimpArgs false

/-! ### cmp_Or_int: function 145 -/
def cmp_Or_int.l0 : Nat → Int → List Int → Int → Int → Option (Int)
 | 0, _, _, _, _ => none
 | k + 1, x3, x6, x7, x8 => if x8 < x7 then (if 0 ≤ x8 then (if x8 < (x6.length : Int) then (if (rd x6 x8) = x3 then (cmp_Or_int.l0 k x3 x6 x7 (wrap64 (x8 + 1))) else (some (rd x6 x8))) else (none)) else (none)) else (some x3)
def cmp_Or_int.f (k : Nat) (l0 : List Int) : Option (Int) := cmp_Or_int.l0 k 0 l0 (l0.length : Int) 0
theorem cmp_Or_int.mono_l : ∀ k, (∀ y0 y1 y2 y3, LeO (cmp_Or_int.l0 k y0 y1 y2 y3) (cmp_Or_int.l0 (k + 1) y0 y1 y2 y3))
 | 0 => fun _ _ _ _ r h => by simp [cmp_Or_int.l0] at h
 | k + 1 => by
  have ih0 := cmp_Or_int.mono_l k
  ·intro y0 y1 y2 y3
   unfold cmp_Or_int.l0
   exact mo_
theorem cmp_Or_int.mono : ∀ a0 k, LeO (cmp_Or_int.f k a0) (cmp_Or_int.f (k + 1) a0) := by
 intro a0 k
 have ih0 := cmp_Or_int.mono_l k
 unfold cmp_Or_int.f
 exact mo_
set_option maxHeartbeats 8000000 in
set_option maxRecDepth 100000 in
theorem cmp_Or_int.calls (k : Nat) (A0 : Option Addr) (c0 : Nat) (l0 : List Int) (r : Int) (w : World) (hr0 : Kd.C (Kd.int .i64) w A0 l0.length l0) (hc0 : l0.length ≤ c0) (h : cmp_Or_int.f k l0 = some r) :
  Calls Try.prog 145 #[.slice A0 l0.length c0] w fun e w' => e = .returned (.int .i64 r) ∧ Drawn0 w w' := by
 have HR0 := am hr0
 have HC0 := am hc0
 clear hr0 hc0
 have H : (cmp_Or_int.l0 k 0 l0 (l0.length : Int) 0) = some r := h
 clear h
 have H' := am H
 clear H
 go_enter Try.func145, Try.ntmps145
 go_wp2
 go_loopg [8] k (fun kq v8 w' => ∃ (x8_1 : Int), v8 = .int .i64 x8_1 ∧ Aside0 (cmp_Or_int.l0 kq 0 l0 (l0.length : Int) x8_1 = some r) ∧ Aside0 (kq ≤ k) ∧ Drawn0 w w')
 case atStart => exact ⟨(0), (by first | rfl | (simp; done) | (simp [*]; done)), H', ⟨Nat.le_refl _⟩, by repeat (first | exact Drawn0.refl _ | apply Drawn0.step)⟩
 case round =>
  clear H'
  try clear c1
  obtain ⟨x8_1, rfl, HA, HK1, ⟨m1, rfl⟩⟩ := hrel
  cases gk with
  | zero => exact absurd HA.out (by simp [cmp_Or_int.l0])
  | succ k1 =>
   have H := HA.out
   clear HA
   simp only [cmp_Or_int.l0] at H
   by_cases c2 : x8_1 < (l0.length : Int)
   ·rw [if_pos c2] at H
    have c2b0 := decide_eq_true c2
    clear c2
    obtain ⟨c3, H⟩ := ig_ H
    have c3b0 := decide_eq_true c3
    clear c3
    obtain ⟨c4, H⟩ := ig_ H
    have c4b0 := decide_eq_true c4
    clear c4
    by_cases c5 : (rd l0 x8_1) = 0
    ·rw [if_pos c5] at H
     have c5b0 : ((rd l0 x8_1) == 0) = true := beq_iff_eq.mpr c5
     have c5b1 : ((rd l0 x8_1) != 0) = false := bne_eq_false_iff_eq.mpr c5
     clear c5
     have H' := am H
     clear H
     have p159 : 0 ≤ (x8_1 : Int) := oa
     have q159 : x8_1 < (l0.length : Int) := oa
     obtain ⟨ad159, e159, hx159_0⟩ := Kd.at_int HR0.out x8_1 p159 q159
     cases e159
     replace p159 := eq_true p159
     replace q159 := eq_true q159
     go_wp2
     go_roundg k1
     case measure => have := HK1.out; omega
     case rel => exact ⟨(wrap64 (x8_1 + 1)), (by first | rfl | (simp; done) | (simp [*]; done)), H', ⟨by have := HK1.out; omega⟩, by repeat (first | exact Drawn0.refl _ | apply Drawn0.step)⟩
    ·rw [if_neg c5] at H
     have c5b0 : ((rd l0 x8_1) == 0) = false := beq_eq_false_iff_ne.mpr c5
     have c5b1 : ((rd l0 x8_1) != 0) = true := bne_iff_ne.mpr c5
     obtain rfl := Option.some.inj H
     have p159 : 0 ≤ (x8_1 : Int) := oa
     have q159 : x8_1 < (l0.length : Int) := oa
     obtain ⟨ad159, e159, hx159_0⟩ := Kd.at_int HR0.out x8_1 p159 q159
     cases e159
     replace p159 := eq_true p159
     replace q159 := eq_true q159
     go_wp2
     go_ret
     exact ⟨by first | rfl | (simp; done) | (simp [*]; done), by repeat (first | exact Drawn0.refl _ | apply Drawn0.step)⟩
   ·rw [if_neg c2] at H
    have c2b0 := decide_eq_false c2
    clear c2
    obtain rfl := Option.some.inj H
    go_wp2
    go_ret
    exact ⟨by first | rfl | (simp; done) | (simp [*]; done), by repeat (first | exact Drawn0.refl _ | apply Drawn0.step)⟩

/-! ### cmp_isNaN_int: function 147 -/
def cmp_isNaN_int.f (a0 : Int) : Option (Bool) := some (a0 != a0)
set_option maxHeartbeats 8000000 in
set_option maxRecDepth 100000 in
theorem cmp_isNaN_int.calls (a0 : Int) (r : Bool) (w : World) (h : cmp_isNaN_int.f a0 = some r) :
  Calls Try.prog 147 #[.int .i64 a0] w fun e w' => e = .returned (.bool r) ∧ Drawn0 w w' := by
 have H : (some (a0 != a0)) = some r := h
 clear h
 obtain rfl := Option.some.inj H
 go_enter Try.func147, Try.ntmps147
 go_wp2
 go_ret
 exact ⟨by first | rfl | (simp; done) | (simp [*]; done), by repeat (first | exact Drawn0.refl _ | apply Drawn0.step)⟩

/-! ### cmp_Compare_int: function 146 -/
def cmp_Compare_int.f (a0 : Int) (a1 : Int) : Option (Int) := (cmp_isNaN_int.f a0).bind fun t160 => ((cmp_isNaN_int.f a1).bind fun t161 => (if t160 = true then (if t161 = true then (some 0) else (some (-1))) else (if t161 = true then (some 1) else (if a0 < a1 then (some (-1)) else (if a0 > a1 then (some 1) else (some 0))))))
set_option maxHeartbeats 8000000 in
set_option maxRecDepth 100000 in
theorem cmp_Compare_int.calls (a0 : Int) (a1 : Int) (r : Int) (w : World) (h : cmp_Compare_int.f a0 a1 = some r) :
  Calls Try.prog 146 #[.int .i64 a0, .int .i64 a1] w fun e w' => e = .returned (.int .i64 r) ∧ Drawn0 w w' := by
 have H : ((cmp_isNaN_int.f a0).bind fun t160 => ((cmp_isNaN_int.f a1).bind fun t161 => (if t160 = true then (if t161 = true then (some 0) else (some (-1))) else (if t161 = true then (some 1) else (if a0 < a1 then (some (-1)) else (if a0 > a1 then (some 1) else (some 0))))))) = some r := h
 clear h
 replace H := Option.bind_eq_some_iff.mp H
 obtain ⟨t160, A30, H⟩ := H
 (try dsimp only at H)
 have A3 := am A30
 clear A30
 replace H := Option.bind_eq_some_iff.mp H
 obtain ⟨t161, A40, H⟩ := H
 (try dsimp only at H)
 have A4 := am A40
 clear A40
 by_cases c5 : t160 = true
 ·subst c5
  rw [if_pos rfl] at H
  by_cases c6 : t161 = true
  ·subst c6
   rw [if_pos rfl] at H
   obtain rfl := Option.some.inj H
   go_enter Try.func146, Try.ntmps146
   go_wp2_with (first | ((with_reducible refine gate_callee (f := 147) rfl ?_); refine gl_ (some 8) Try.func147 #[.int .i64 a0] ?_; (with_reducible refine (cmp_isNaN_int.calls a0 true _ A3.out).mono ?_); rintro e w' ⟨rfl, ⟨nd, rfl⟩⟩; refine ⟨_, rfl, ?_⟩) | ((with_reducible refine gate_callee (f := 147) rfl ?_); refine gl_ (some 10) Try.func147 #[.int .i64 a1] ?_; (with_reducible refine (cmp_isNaN_int.calls a1 true _ A4.out).mono ?_); rintro e w' ⟨rfl, ⟨nd, rfl⟩⟩; refine ⟨_, rfl, ?_⟩))
   go_ret
   exact ⟨by first | rfl | (simp; done) | (simp [*]; done), by repeat (first | exact Drawn0.refl _ | apply Drawn0.step)⟩
  ·replace c6 := Bool.eq_false_iff.mpr c6
   subst c6
   rw [if_neg (show ¬ (false = true) by decide)] at H
   obtain rfl := Option.some.inj H
   go_enter Try.func146, Try.ntmps146
   go_wp2_with (first | ((with_reducible refine gate_callee (f := 147) rfl ?_); refine gl_ (some 8) Try.func147 #[.int .i64 a0] ?_; (with_reducible refine (cmp_isNaN_int.calls a0 true _ A3.out).mono ?_); rintro e w' ⟨rfl, ⟨nd, rfl⟩⟩; refine ⟨_, rfl, ?_⟩) | ((with_reducible refine gate_callee (f := 147) rfl ?_); refine gl_ (some 10) Try.func147 #[.int .i64 a1] ?_; (with_reducible refine (cmp_isNaN_int.calls a1 false _ A4.out).mono ?_); rintro e w' ⟨rfl, ⟨nd, rfl⟩⟩; refine ⟨_, rfl, ?_⟩))
   go_ret
   exact ⟨by first | rfl | (simp; done) | (simp [*]; done), by repeat (first | exact Drawn0.refl _ | apply Drawn0.step)⟩
 ·replace c5 := Bool.eq_false_iff.mpr c5
  subst c5
  rw [if_neg (show ¬ (false = true) by decide)] at H
  by_cases c7 : t161 = true
  ·subst c7
   rw [if_pos rfl] at H
   obtain rfl := Option.some.inj H
   go_enter Try.func146, Try.ntmps146
   go_wp2_with (first | ((with_reducible refine gate_callee (f := 147) rfl ?_); refine gl_ (some 8) Try.func147 #[.int .i64 a0] ?_; (with_reducible refine (cmp_isNaN_int.calls a0 false _ A3.out).mono ?_); rintro e w' ⟨rfl, ⟨nd, rfl⟩⟩; refine ⟨_, rfl, ?_⟩) | ((with_reducible refine gate_callee (f := 147) rfl ?_); refine gl_ (some 10) Try.func147 #[.int .i64 a1] ?_; (with_reducible refine (cmp_isNaN_int.calls a1 true _ A4.out).mono ?_); rintro e w' ⟨rfl, ⟨nd, rfl⟩⟩; refine ⟨_, rfl, ?_⟩))
   go_ret
   exact ⟨by first | rfl | (simp; done) | (simp [*]; done), by repeat (first | exact Drawn0.refl _ | apply Drawn0.step)⟩
  ·replace c7 := Bool.eq_false_iff.mpr c7
   subst c7
   rw [if_neg (show ¬ (false = true) by decide)] at H
   by_cases c8 : a0 < a1
   ·rw [if_pos c8] at H
    have c8b0 := decide_eq_true c8
    clear c8
    obtain rfl := Option.some.inj H
    go_enter Try.func146, Try.ntmps146
    go_wp2_with (first | ((with_reducible refine gate_callee (f := 147) rfl ?_); refine gl_ (some 8) Try.func147 #[.int .i64 a0] ?_; (with_reducible refine (cmp_isNaN_int.calls a0 false _ A3.out).mono ?_); rintro e w' ⟨rfl, ⟨nd, rfl⟩⟩; refine ⟨_, rfl, ?_⟩) | ((with_reducible refine gate_callee (f := 147) rfl ?_); refine gl_ (some 10) Try.func147 #[.int .i64 a1] ?_; (with_reducible refine (cmp_isNaN_int.calls a1 false _ A4.out).mono ?_); rintro e w' ⟨rfl, ⟨nd, rfl⟩⟩; refine ⟨_, rfl, ?_⟩))
    go_ret
    exact ⟨by first | rfl | (simp; done) | (simp [*]; done), by repeat (first | exact Drawn0.refl _ | apply Drawn0.step)⟩
   ·rw [if_neg c8] at H
    have c8b0 := decide_eq_false c8
    clear c8
    by_cases c9 : a0 > a1
    ·rw [if_pos c9] at H
     have c9b0 := decide_eq_true c9
     clear c9
     obtain rfl := Option.some.inj H
     go_enter Try.func146, Try.ntmps146
     go_wp2_with (first | ((with_reducible refine gate_callee (f := 147) rfl ?_); refine gl_ (some 8) Try.func147 #[.int .i64 a0] ?_; (with_reducible refine (cmp_isNaN_int.calls a0 false _ A3.out).mono ?_); rintro e w' ⟨rfl, ⟨nd, rfl⟩⟩; refine ⟨_, rfl, ?_⟩) | ((with_reducible refine gate_callee (f := 147) rfl ?_); refine gl_ (some 10) Try.func147 #[.int .i64 a1] ?_; (with_reducible refine (cmp_isNaN_int.calls a1 false _ A4.out).mono ?_); rintro e w' ⟨rfl, ⟨nd, rfl⟩⟩; refine ⟨_, rfl, ?_⟩))
     go_ret
     exact ⟨by first | rfl | (simp; done) | (simp [*]; done), by repeat (first | exact Drawn0.refl _ | apply Drawn0.step)⟩
    ·rw [if_neg c9] at H
     have c9b0 := decide_eq_false c9
     clear c9
     obtain rfl := Option.some.inj H
     go_enter Try.func146, Try.ntmps146
     go_wp2_with (first | ((with_reducible refine gate_callee (f := 147) rfl ?_); refine gl_ (some 8) Try.func147 #[.int .i64 a0] ?_; (with_reducible refine (cmp_isNaN_int.calls a0 false _ A3.out).mono ?_); rintro e w' ⟨rfl, ⟨nd, rfl⟩⟩; refine ⟨_, rfl, ?_⟩) | ((with_reducible refine gate_callee (f := 147) rfl ?_); refine gl_ (some 10) Try.func147 #[.int .i64 a1] ?_; (with_reducible refine (cmp_isNaN_int.calls a1 false _ A4.out).mono ?_); rintro e w' ⟨rfl, ⟨nd, rfl⟩⟩; refine ⟨_, rfl, ?_⟩))
     go_ret
     exact ⟨by first | rfl | (simp; done) | (simp [*]; done), by repeat (first | exact Drawn0.refl _ | apply Drawn0.step)⟩

/-! ### impl_tieOrder: function 141 -/
def impl_tieOrder.f (k : Nat) (a0_0 : Int) (a0_1 : Int) (a1_0 : Int) (a1_1 : Int) : Option (Int) := (cmp_Compare_int.f a0_0 a1_0).bind fun t164 => ((cmp_Compare_int.f a0_1 a1_1).bind fun t165 => ((cmp_Or_int.f k (([t164, t165] : List Int))).bind fun t169 => (some t169)))
theorem impl_tieOrder.mono : ∀ a0 a1 a2 a3 k, LeO (impl_tieOrder.f k a0 a1 a2 a3) (impl_tieOrder.f (k + 1) a0 a1 a2 a3) := by
 intro a0 a1 a2 a3 k
 unfold impl_tieOrder.f
 have m0_ := @cmp_Or_int.mono
 exact mo_
def impl_tieOrder.T1 : Bool × List (List Nat × List Nat) := (true, [([], []), ([0], [0]), ([], []), ([2], [2]), ([1, 3], [1, 3]), ([], []), ([5], [5]), ([], []), ([7], [7]), ([6, 8, 4], [6, 8]), ([4, 9], [4, 9]), ([10, 9], [10]), ([11, 11, 0, 1, 2, 3, 4, 5, 6, 7, 8, 9, 10, 11], [11])])
def impl_tieOrder.B1 : List Nat := [0, 1, 0, 4, 15, 0, 32, 0, 128, 511, 1023, 2047, 4095]
theorem impl_tieOrder.tab1 : rtab .any (opsOf Try.f141 1) = impl_tieOrder.T1 := by kernel_rfl
theorem impl_tieOrder.bits1 : waitsOk impl_tieOrder.T1.2 impl_tieOrder.B1 = true := by kernel_rfl
set_option maxHeartbeats 8000000 in
set_option maxRecDepth 100000 in
theorem impl_tieOrder.calls (k : Nat) (a0_0 : Int) (a0_1 : Int) (a1_0 : Int) (a1_1 : Int) (r : Int) (w : World) (h : impl_tieOrder.f k a0_0 a0_1 a1_0 a1_1 = some r) :
  Calls Try.prog 141 #[.agg #[.int .i64 a0_0, .int .i64 a0_1], .agg #[.int .i64 a1_0, .int .i64 a1_1]] w fun e w' => e = .returned (.int .i64 r) ∧ Below w.heap.size w w' := by
 have hu73 := Try.underlying73
 have HB := am (Below.refl w.heap.size w)
 have H : ((cmp_Compare_int.f a0_0 a1_0).bind fun t164 => ((cmp_Compare_int.f a0_1 a1_1).bind fun t165 => ((cmp_Or_int.f k (([t164, t165] : List Int))).bind fun t169 => (some t169)))) = some r := h
 clear h
 replace H := Option.bind_eq_some_iff.mp H
 obtain ⟨t164, A30, H⟩ := H
 (try dsimp only at H)
 have A3 := am A30
 clear A30
 replace H := Option.bind_eq_some_iff.mp H
 obtain ⟨t165, A40, H⟩ := H
 (try dsimp only at H)
 have A4 := am A40
 clear A40
 obtain ⟨y166, hy166⟩ : ∃ y_ : List Int, y_ = (([t164, t165] : List Int)) := ⟨_, rfl⟩
 replace H : ((cmp_Or_int.f k y166).bind fun t169 => (some t169)) = some r := nh_ hy166 H
 have Ny166 := am hy166
 clear hy166
 replace H := Option.bind_eq_some_iff.mp H
 obtain ⟨t169, A50, H⟩ := H
 (try dsimp only at H)
 have A5 := am A50
 clear A50
 obtain rfl := Option.some.inj H
 go_enter Try.func141, Try.ntmps141
 try go_wp2_with (first | ((with_reducible refine gate_dst (N := 2) rfl ?_); refine be_ 2 #[.int .i64 a0_0, .int .i64 a0_1] 73 ?_; intro gb162 hg w6 hbox hb; have BK162 := am hbox; have GW162 := am (ge_ hg HB); have GE162 := am (ge_ hg HB); replace HB := bs HB hb; clear hb hbox hg) | ((with_reducible refine gate_dst (N := 3) rfl ?_); refine be_ 3 #[.int .i64 a1_0, .int .i64 a1_1] 73 ?_; intro gb163 hg w7 hbox hb; have BK163 := am hbox; have GW163 := am (ge_ hg HB); have GE163 := am (ge_ hg HB); replace HB := bs HB hb; obtain ⟨NB162_163, NB163_162⟩ := nb_ hg BK162; replace BK162 := bb BK162 hb; clear hb hbox hg))
 replace BK162 := am (blk_drew BK162.out)
 replace BK163 := am (blk_drew BK163.out)
 replace HB := am (below_drew1 HB.out)
 refine start_ (n := 13) (S := fun w' => w'.cell? ⟨gb162, 0, none⟩ = some (.int .i64 a0_0) ∧ w'.cell? ⟨gb162, 1, none⟩ = some (.int .i64 a0_1) ∧ w'.cell? ⟨gb163, 0, none⟩ = some (.int .i64 a1_0) ∧ w'.cell? ⟨gb163, 1, none⟩ = some (.int .i64 a1_1)) (ds := []) #[false, false, false, false, false, false, false, false, false, false, false, false, false] (by kernel_rfl) rfl rfl ⟨(bc BK162 0), (bc BK162 1), (bc BK163 0), (bc BK163 1)⟩ (fun hHeld => ?_); refine with_tabW impl_tieOrder.tab1 impl_tieOrder.bits1 (fun HT_ HW_ => ?_)
 generalize w7.drew = w8 at BK162 BK163 HB hHeld ⊢
 refine pz_ 0 (some 5) HT_ ?_
 refine pz_ 2 (some 7) HT_ ?_
 refine pz_ 5 (some 10) HT_ ?_
 refine pz_ 7 (some 12) HT_ ?_
 refine tz_ 1 (some 6) HT_ HW_ hHeld ?_
 refine tz_ 3 (some 8) HT_ HW_ hHeld ?_
 refine tz_ 6 (some 11) HT_ HW_ hHeld ?_
 refine tz_ 8 (some 13) HT_ HW_ hHeld ?_
 refine one_ (i := 4) (N := some 9) #[true, true, true, true, true, true, true, true, true, false, false, false, false] rfl rfl (one_of HT_.out (by kernel_rfl)) (by decide) (fun K hK => ?_)
 refine gg_ Try.func146 #[.int .i64 a0_0, .int .i64 a1_0] ?_
 with_reducible refine (cmp_Compare_int.calls a0_0 a1_0 t164 _ A3.out).mono ?_
 rintro e w' ⟨rfl, ⟨nd, rfl⟩⟩
 refine ⟨_, rfl, ?_⟩
 refine hK.out _ _ ⟨(bc BK162 0), (bc BK162 1), (bc BK163 0), (bc BK163 1)⟩ (fun hHeld => ?_)
 clear hK K
 refine nz_ 9 ?_
 refine one_ (i := 9) (N := some 14) #[true, true, true, true, true, true, true, true, true, true, false, false, false] rfl rfl (one_of HT_.out (by kernel_rfl)) (by decide) (fun K hK => ?_)
 refine gg_ Try.func146 #[.int .i64 a0_1, .int .i64 a1_1] ?_
 with_reducible refine (cmp_Compare_int.calls a0_1 a1_1 t165 _ A4.out).mono ?_
 rintro e w' ⟨rfl, ⟨nd, rfl⟩⟩
 refine ⟨_, rfl, ?_⟩
 refine hK.out _ _ ⟨(bc BK162 0), (bc BK162 1), (bc BK163 0), (bc BK163 1)⟩ (fun hHeld => ?_)
 clear hK K
 refine nz_ 14 ?_
 refine one_ (i := 10) (N := some 15) #[true, true, true, true, true, true, true, true, true, true, true, false, false] rfl rfl (one_of HT_.out (by kernel_rfl)) (by decide) (fun K hK => ?_)
 refine Kd.R_lit_step (Kd.int .i64) _ 3 ?hg (N := 15) ?hd (xs := ([t164, t165] : List Int)) (inner := [.int .i64 t164, .int .i64 t165]) (ok := fun _ => True) (okp := fun _ => True) ?hr ?hp (fun _ hk => hk) trivial (Below.refl _ _) (Nat.le_refl _) (by simp) ?_; (case hd => rfl); (case hg => rfl); (case hr => first | (go_simp; done) | (go_simp; rfl)); (case hp => exact (Reps.one (show Kd.M (Kd.int .i64) _ _ _ t164 [.int .i64 t164] from rfl) (Reps.one (show Kd.M (Kd.int .i64) _ _ _ t165 [.int .i64 t165] from rfl) (Reps.none _ _))))
 intro v167 w9 ho10 hb hg_ hnew_
 clear hg_ hnew_
 (first | rw [← Ny166.out] at ho10 | (simp only [Int.reduceToNat] at ho10; rw [← Ny166.out] at ho10))
 have n0_ := am (Kd.R_lower ho10 (below_size (bn HB)))
 have n1_ := bb BK162 hb
 have n2_ := bb BK163 hb
 have n3_ := bs HB hb
 clear BK162 BK163 HB
 have HO168 := n0_
 have BK162 := n1_
 have BK163 := n2_
 have HB := n3_
 clear n0_ n1_ n2_ n3_ hb ho10
 obtain ⟨Ao11, co11, eo11⟩ := Kd.R_slice HO168.out
 (first | subst eo11 | (injection eo11 with f1_ f2_ f3_; have f4_ := f1_.symm; have f5_ := f3_.symm; clear f1_ f2_ f3_; subst f4_; subst f5_))
 refine hK.out _ _ ⟨(bc BK162 0), (bc BK162 1), (bc BK163 0), (bc BK163 1)⟩ (fun hHeld => ?_)
 clear hK K
 refine nz_ 15 ?_
 refine one_ (i := 11) (N := some 16) #[true, true, true, true, true, true, true, true, true, true, true, true, false] rfl rfl (one_of HT_.out (by kernel_rfl)) (by decide) (fun K hK => ?_)
 refine gg_ Try.func145 #[.slice Ao11 y166.length co11] ?_
 with_reducible refine (cmp_Or_int.calls k _ _ y166 t169 _ ?side1 ?side2 A5.out).mono ?_
 (case side1 => exact (Kd.R_reads' (onR HO168)).2.2)
 (case side2 => exact (Kd.R_reads' HO168.out).2.1)
 rintro e w' ⟨rfl, ⟨nd, rfl⟩⟩
 refine ⟨_, rfl, ?_⟩
 refine hK.out _ _ ⟨(bc BK162 0), (bc BK162 1), (bc BK163 0), (bc BK163 1)⟩ (fun hHeld => ?_)
 clear hK K
 refine nz_ 16 ?_
 refine pz_ 12 (some 4) HT_ ?_
 refine done_ (done_of HT_.out (by kernel_rfl)) ?_
 try go_wp2
 go_ret
 exact ⟨by first | rfl | (simp [errW_none, errW_some] <;> rfl) | (simp [*, errW_none, errW_some] <;> rfl), bn HB⟩

/-! ### impl_ascending: function 130 -/
def impl_ascending.l0 : Nat → List (S73) → Int → Option (Bool)
 | 0, _, _ => none
 | k + 1, x0, x3 => if x3 < (x0.length : Int) then (if 0 ≤ (wrap64 (x3 - 1)) then (if (wrap64 (x3 - 1)) < (x0.length : Int) then (if 0 ≤ x3 then ((impl_tieOrder.f k ((rd_T73 x0 (wrap64 (x3 - 1))).f0) ((rd_T73 x0 (wrap64 (x3 - 1))).f1) ((rd_T73 x0 x3).f0) ((rd_T73 x0 x3).f1)).bind fun t172 => (if t172 ≥ 0 then (some false) else (impl_ascending.l0 k x0 (wrap64 (x3 + 1))))) else (none)) else (none)) else (none)) else (some true)
def impl_ascending.f (k : Nat) (l0 : List (S73)) : Option (Bool) := impl_ascending.l0 k l0 1
theorem impl_ascending.mono_l : ∀ k, (∀ y0 y1, LeO (impl_ascending.l0 k y0 y1) (impl_ascending.l0 (k + 1) y0 y1))
 | 0 => fun _ _ r h => by simp [impl_ascending.l0] at h
 | k + 1 => by
  have ih0 := impl_ascending.mono_l k
  ·intro y0 y1
   unfold impl_ascending.l0
   have m0_ := @impl_tieOrder.mono
   exact mo_
theorem impl_ascending.mono : ∀ a0 k, LeO (impl_ascending.f k a0) (impl_ascending.f (k + 1) a0) := by
 intro a0 k
 have ih0 := impl_ascending.mono_l k
 unfold impl_ascending.f
 have m0_ := @impl_tieOrder.mono
 exact mo_
def impl_ascending.T4 : Bool × List (List Nat × List Nat) := (true, [([], []), ([], []), ([1], [1]), ([0, 2], [0, 2]), ([3], [3]), ([], []), ([], []), ([5, 6], [5, 6]), ([7], [7]), ([4, 8], [4, 8]), ([9], [9])])
def impl_ascending.B4 : List Nat := [0, 0, 2, 7, 15, 0, 0, 96, 224, 511, 1023]
theorem impl_ascending.tab4 : rtab .any (opsOf Try.f130 4) = impl_ascending.T4 := by kernel_rfl
theorem impl_ascending.bits4 : waitsOk impl_ascending.T4.2 impl_ascending.B4 = true := by kernel_rfl
set_option maxHeartbeats 8000000 in
set_option maxRecDepth 100000 in
theorem impl_ascending.calls (k : Nat) (A0 : Option Addr) (c0 : Nat) (l0 : List (S73)) (r : Bool) (w : World) (hr0 : Kd.C k73 w A0 l0.length l0) (hc0 : l0.length ≤ c0) (h : impl_ascending.f k l0 = some r) :
  Calls Try.prog 130 #[.slice A0 l0.length c0] w fun e w' => e = .returned (.bool r) ∧ Below w.heap.size w w' := by
 have hu73 := Try.underlying73
 have HR0 := am hr0
 have HC0 := am hc0
 clear hr0 hc0
 have HB := am (Below.refl w.heap.size w)
 have H : (impl_ascending.l0 k l0 1) = some r := h
 clear h
 have H' := am H
 clear H
 go_enter Try.func130, Try.ntmps130
 go_wp2
 go_loopg [3] k (fun kq v3 w' => ∃ (x3_1 : Int), v3 = .int .i64 x3_1 ∧ Aside0 (impl_ascending.l0 kq l0 x3_1 = some r) ∧ Aside0 (kq ≤ k) ∧ Aside0 (Below w.heap.size w w'))
 case atStart => exact ⟨(1), (by first | rfl | (simp; done) | (simp [*]; done)), H', ⟨Nat.le_refl _⟩, ⟨bn HB⟩⟩
 case round =>
  clear H'
  try clear c1
  obtain ⟨x3_1, rfl, HA, HK1, HB⟩ := hrel
  cases gk with
  | zero => exact absurd HA.out (by simp [impl_ascending.l0])
  | succ k1 =>
   have H := HA.out
   clear HA
   simp only [impl_ascending.l0] at H
   by_cases c2 : x3_1 < (l0.length : Int)
   ·rw [if_pos c2] at H
    have c2b0 := decide_eq_true c2
    clear c2
    obtain ⟨ji3, hji3⟩ : ∃ j_ : Int, (wrap64 (x3_1 - 1)) = j_ := ⟨_, rfl⟩
    replace H : (if 0 ≤ (ji3) then (if (ji3) < (l0.length : Int) then (if 0 ≤ x3_1 then ((impl_tieOrder.f k1 ((rd_T73 l0 (ji3)).f0) ((rd_T73 l0 (ji3)).f1) ((rd_T73 l0 x3_1).f0) ((rd_T73 l0 x3_1).f1)).bind fun t172 => (if t172 ≥ 0 then (some false) else (impl_ascending.l0 k1 l0 (wrap64 (x3_1 + 1))))) else (none)) else (none)) else (none)) = some r := by first | (rw [hji3] at H; exact H) | (simp only [hji3] at H ⊢; exact H)
    have hji3w : (IntKind.i64.wrap (x3_1 - 1)) = ji3 := (i64_w _).trans hji3
    obtain ⟨c4, H⟩ := ig_ H
    have c4b0 := decide_eq_true c4
    clear c4
    obtain ⟨c5, H⟩ := ig_ H
    have c5b0 := decide_eq_true c5
    clear c5
    obtain ⟨c6, H⟩ := ig_ H
    have c6b0 := decide_eq_true c6
    clear c6
    replace H := Option.bind_eq_some_iff.mp H
    obtain ⟨t172, A70, H⟩ := H
    (try dsimp only at H)
    have A7 := am A70
    clear A70
    by_cases c8 : t172 ≥ 0
    ·rw [if_pos c8] at H
     have c8b0 := decide_eq_true c8
     clear c8
     obtain rfl := Option.some.inj H
     try go_wp2
     replace HB := am (below_drew1 HB.out)
     have p170 : 0 ≤ ((ji3) : Int) := oa
     have q170 : (ji3) < (l0.length : Int) := oa
     obtain ⟨ad170, e170, hx170_0, hx170_1⟩ := at_T73 HR0.out (ji3) p170 q170
     have hw170_1 := hx170_1
     have hw170_0 := hx170_0
     cases e170
     replace hx170_0 := (HB.out.cell (World.block_lt_of_cell? w _ hx170_0)).trans hx170_0
     replace hx170_1 := (HB.out.cell (World.block_lt_of_cell? w _ hx170_1)).trans hx170_1
     replace p170 := eq_true p170
     replace q170 := eq_true q170
     have p171 : 0 ≤ (x3_1 : Int) := oa
     have q171 : x3_1 < (l0.length : Int) := oa
     obtain ⟨ad171, e171, hx171_0, hx171_1⟩ := at_T73 HR0.out x3_1 p171 q171
     have hw171_1 := hx171_1
     have hw171_0 := hx171_0
     obtain rfl : ad170 = ad171 := (by injection e171)
     replace hx171_0 := (HB.out.cell (World.block_lt_of_cell? w _ hx171_0)).trans hx171_0
     replace hx171_1 := (HB.out.cell (World.block_lt_of_cell? w _ hx171_1)).trans hx171_1
     replace p171 := eq_true p171
     replace q171 := eq_true q171
     refine start_ (n := 11) (S := fun w' => w'.cell? (ad170.add (((ji3)).toNat * 2)) = some (.int .i64 ((rd_T73 l0 (ji3)).f0)) ∧ w'.cell? ⟨(ad170.add (((ji3)).toNat * 2)).block, (ad170.add (((ji3)).toNat * 2)).off + 1, none⟩ = some (.int .i64 ((rd_T73 l0 (ji3)).f1)) ∧ w'.cell? (ad170.add ((x3_1).toNat * 2)) = some (.int .i64 ((rd_T73 l0 x3_1).f0)) ∧ w'.cell? ⟨(ad170.add ((x3_1).toNat * 2)).block, (ad170.add ((x3_1).toNat * 2)).off + 1, none⟩ = some (.int .i64 ((rd_T73 l0 x3_1).f1))) (ds := []) #[false, false, false, false, false, false, false, false, false, false, false] (by kernel_rfl) rfl rfl ⟨((HB.out.cell (World.block_lt_of_cell? w _ hw170_0)).trans hw170_0), ((HB.out.cell (World.block_lt_of_cell? w _ hw170_1)).trans hw170_1), ((HB.out.cell (World.block_lt_of_cell? w _ hw171_0)).trans hw171_0), ((HB.out.cell (World.block_lt_of_cell? w _ hw171_1)).trans hw171_1)⟩ (fun hHeld => ?_); refine with_tabW impl_ascending.tab4 impl_ascending.bits4 (fun HT_ HW_ => ?_)
     generalize wr.drew = w9 at HB hx170_0 hx170_1 hx171_0 hx171_1 hHeld ⊢
     refine pz_ 0 (some 10) HT_ ?_
     refine pz_ 1 (some 11) HT_ ?_
     refine pz_ 2 (some 12) HT_ ?_
     refine pz_ 3 (some 13) HT_ ?_
     refine pz_ 5 (some 15) HT_ ?_
     refine pz_ 6 (some 16) HT_ ?_
     refine pz_ 7 (some 17) HT_ ?_
     refine tz_ 4 (some 14) HT_ HW_ hHeld ?_
     refine tz_ 8 (some 18) HT_ HW_ hHeld ?_
     refine one_ (i := 9) (N := some 19) #[true, true, true, true, true, true, true, true, true, true, false] rfl rfl (one_of HT_.out (by kernel_rfl)) (by decide) (fun K hK => ?_)
     refine goes_ Try.func141 (by kernel_rfl) rfl #[.agg #[.int .i64 ((rd_T73 l0 (ji3)).f0), .int .i64 ((rd_T73 l0 (ji3)).f1)], .agg #[.int .i64 ((rd_T73 l0 x3_1).f0), .int .i64 ((rd_T73 l0 x3_1).f1)]] (by rfl) rfl rfl (by (try simp only [List.map_toArray, List.map_cons, List.map_nil]); first | done | (simp only [hji3]; rfl) | rfl | (simp only [List.length_drop, List.length_take]; rfl)) ?_
     with_reducible refine (impl_tieOrder.calls k1 ((rd_T73 l0 (ji3)).f0) ((rd_T73 l0 (ji3)).f1) ((rd_T73 l0 x3_1).f0) ((rd_T73 l0 x3_1).f1) t172 _ A7.out).mono ?_
     rintro e w10 ⟨rfl, hb⟩
     refine ⟨_, rfl, ?_⟩
     replace HB := bs HB hb
     (try clear hb)
     (try clear hb2)
     (try clear hk)
     (try clear hi)
     refine hK.out _ _ ⟨((HB.out.cell (World.block_lt_of_cell? w _ hw170_0)).trans hw170_0), ((HB.out.cell (World.block_lt_of_cell? w _ hw170_1)).trans hw170_1), ((HB.out.cell (World.block_lt_of_cell? w _ hw171_0)).trans hw171_0), ((HB.out.cell (World.block_lt_of_cell? w _ hw171_1)).trans hw171_1)⟩ (fun hHeld => ?_)
     clear hK K
     refine nz_ 19 ?_
     refine pz_ 10 (some 20) HT_ ?_
     refine done_ (done_of HT_.out (by kernel_rfl)) ?_
     try go_wp2
     go_ret
     exact ⟨by first | rfl | (simp [errW_none, errW_some] <;> rfl) | (simp only [← hji3]; first | rfl | (simp [errW_none, errW_some] <;> rfl)) | (simp [*, errW_none, errW_some] <;> rfl), bn HB⟩
    ·rw [if_neg c8] at H
     have c8b0 := decide_eq_false c8
     clear c8
     have H' := am H
     clear H
     try go_wp2
     replace HB := am (below_drew1 HB.out)
     have p170 : 0 ≤ ((ji3) : Int) := oa
     have q170 : (ji3) < (l0.length : Int) := oa
     obtain ⟨ad170, e170, hx170_0, hx170_1⟩ := at_T73 HR0.out (ji3) p170 q170
     have hw170_1 := hx170_1
     have hw170_0 := hx170_0
     cases e170
     replace hx170_0 := (HB.out.cell (World.block_lt_of_cell? w _ hx170_0)).trans hx170_0
     replace hx170_1 := (HB.out.cell (World.block_lt_of_cell? w _ hx170_1)).trans hx170_1
     replace p170 := eq_true p170
     replace q170 := eq_true q170
     have p171 : 0 ≤ (x3_1 : Int) := oa
     have q171 : x3_1 < (l0.length : Int) := oa
     obtain ⟨ad171, e171, hx171_0, hx171_1⟩ := at_T73 HR0.out x3_1 p171 q171
     have hw171_1 := hx171_1
     have hw171_0 := hx171_0
     obtain rfl : ad170 = ad171 := (by injection e171)
     replace hx171_0 := (HB.out.cell (World.block_lt_of_cell? w _ hx171_0)).trans hx171_0
     replace hx171_1 := (HB.out.cell (World.block_lt_of_cell? w _ hx171_1)).trans hx171_1
     replace p171 := eq_true p171
     replace q171 := eq_true q171
     refine start_ (n := 11) (S := fun w' => w'.cell? (ad170.add (((ji3)).toNat * 2)) = some (.int .i64 ((rd_T73 l0 (ji3)).f0)) ∧ w'.cell? ⟨(ad170.add (((ji3)).toNat * 2)).block, (ad170.add (((ji3)).toNat * 2)).off + 1, none⟩ = some (.int .i64 ((rd_T73 l0 (ji3)).f1)) ∧ w'.cell? (ad170.add ((x3_1).toNat * 2)) = some (.int .i64 ((rd_T73 l0 x3_1).f0)) ∧ w'.cell? ⟨(ad170.add ((x3_1).toNat * 2)).block, (ad170.add ((x3_1).toNat * 2)).off + 1, none⟩ = some (.int .i64 ((rd_T73 l0 x3_1).f1))) (ds := []) #[false, false, false, false, false, false, false, false, false, false, false] (by kernel_rfl) rfl rfl ⟨((HB.out.cell (World.block_lt_of_cell? w _ hw170_0)).trans hw170_0), ((HB.out.cell (World.block_lt_of_cell? w _ hw170_1)).trans hw170_1), ((HB.out.cell (World.block_lt_of_cell? w _ hw171_0)).trans hw171_0), ((HB.out.cell (World.block_lt_of_cell? w _ hw171_1)).trans hw171_1)⟩ (fun hHeld => ?_); refine with_tabW impl_ascending.tab4 impl_ascending.bits4 (fun HT_ HW_ => ?_)
     generalize wr.drew = w11 at HB hx170_0 hx170_1 hx171_0 hx171_1 hHeld ⊢
     refine pz_ 0 (some 10) HT_ ?_
     refine pz_ 1 (some 11) HT_ ?_
     refine pz_ 2 (some 12) HT_ ?_
     refine pz_ 3 (some 13) HT_ ?_
     refine pz_ 5 (some 15) HT_ ?_
     refine pz_ 6 (some 16) HT_ ?_
     refine pz_ 7 (some 17) HT_ ?_
     refine tz_ 4 (some 14) HT_ HW_ hHeld ?_
     refine tz_ 8 (some 18) HT_ HW_ hHeld ?_
     refine one_ (i := 9) (N := some 19) #[true, true, true, true, true, true, true, true, true, true, false] rfl rfl (one_of HT_.out (by kernel_rfl)) (by decide) (fun K hK => ?_)
     refine goes_ Try.func141 (by kernel_rfl) rfl #[.agg #[.int .i64 ((rd_T73 l0 (ji3)).f0), .int .i64 ((rd_T73 l0 (ji3)).f1)], .agg #[.int .i64 ((rd_T73 l0 x3_1).f0), .int .i64 ((rd_T73 l0 x3_1).f1)]] (by rfl) rfl rfl (by (try simp only [List.map_toArray, List.map_cons, List.map_nil]); first | done | (simp only [hji3]; rfl) | rfl | (simp only [List.length_drop, List.length_take]; rfl)) ?_
     with_reducible refine (impl_tieOrder.calls k1 ((rd_T73 l0 (ji3)).f0) ((rd_T73 l0 (ji3)).f1) ((rd_T73 l0 x3_1).f0) ((rd_T73 l0 x3_1).f1) t172 _ A7.out).mono ?_
     rintro e w12 ⟨rfl, hb⟩
     refine ⟨_, rfl, ?_⟩
     replace HB := bs HB hb
     (try clear hb)
     (try clear hb2)
     (try clear hk)
     (try clear hi)
     refine hK.out _ _ ⟨((HB.out.cell (World.block_lt_of_cell? w _ hw170_0)).trans hw170_0), ((HB.out.cell (World.block_lt_of_cell? w _ hw170_1)).trans hw170_1), ((HB.out.cell (World.block_lt_of_cell? w _ hw171_0)).trans hw171_0), ((HB.out.cell (World.block_lt_of_cell? w _ hw171_1)).trans hw171_1)⟩ (fun hHeld => ?_)
     clear hK K
     refine nz_ 19 ?_
     refine pz_ 10 (some 20) HT_ ?_
     refine done_ (done_of HT_.out (by kernel_rfl)) ?_
     try go_wp2
     go_roundg k1
     case measure => have := HK1.out; omega
     case rel => exact ⟨(wrap64 (x3_1 + 1)), (by first | rfl | (simp; done) | (simp [*]; done)), H', ⟨by have := HK1.out; omega⟩, ⟨bn HB⟩⟩
   ·rw [if_neg c2] at H
    have c2b0 := decide_eq_false c2
    clear c2
    obtain rfl := Option.some.inj H
    go_wp2
    go_ret
    exact ⟨by first | rfl | (simp [errW_none, errW_some] <;> rfl) | (simp [*, errW_none, errW_some] <;> rfl), bn HB⟩

/-! ### impl_NetOk: function 91 -/
mutual
def impl_NetOk.j0 : Nat → Bool → Int → List (S73) → Option (Bool)
 | 0, _, _, _ => none
 | k + 1, x12, x174000, x174001 => if x12 = true then (some false) else (impl_NetOk.l0 k x174001 (x174001.length : Int) 0 x174000 x174001)
def impl_NetOk.l0 : Nat → List (S73) → Int → Int → Int → List (S73) → Option (Bool)
 | 0, _, _, _, _, _ => none
 | k + 1, x14, x15, x16, x174000, x174001 => if x16 < x15 then (if 0 ≤ x16 then (if x16 < (x14.length : Int) then (if ((rd_T73 x14 x16).f0) < 0 then (some false) else (if ((rd_T73 x14 x16).f0) ≥ ((rd_T73 x14 x16).f1) then (some false) else (if ((rd_T73 x14 x16).f1) ≥ x174000 then (some false) else (impl_NetOk.l0 k x14 x15 (wrap64 (x16 + 1)) x174000 x174001)))) else (none)) else (none)) else ((impl_ascending.f k x174001).bind fun t176 => (some t176))
end
def impl_NetOk.f (k : Nat) (a0_0 : Int) (l0_1 : List (S73)) : Option (Bool) := if a0_0 < 0 then (impl_NetOk.j0 k true a0_0 l0_1) else (impl_NetOk.j0 k (decide (a0_0 > 8)) a0_0 l0_1)
theorem impl_NetOk.mono_l : ∀ k, (∀ y0 y1 y2, LeO (impl_NetOk.j0 k y0 y1 y2) (impl_NetOk.j0 (k + 1) y0 y1 y2)) ∧ (∀ y0 y1 y2 y3 y4, LeO (impl_NetOk.l0 k y0 y1 y2 y3 y4) (impl_NetOk.l0 (k + 1) y0 y1 y2 y3 y4))
 | 0 => ⟨fun _ _ _ r h => by simp [impl_NetOk.j0] at h, fun _ _ _ _ _ r h => by simp [impl_NetOk.l0] at h⟩
 | k + 1 => by
  obtain ⟨ih0, ih1⟩ := impl_NetOk.mono_l k
  refine ⟨?_, ?_⟩
  ·intro y0 y1 y2
   unfold impl_NetOk.j0
   have m0_ := @impl_ascending.mono
   exact mo_
  ·intro y0 y1 y2 y3 y4
   unfold impl_NetOk.l0
   have m0_ := @impl_ascending.mono
   exact mo_
theorem impl_NetOk.mono : ∀ a0 a1 k, LeO (impl_NetOk.f k a0 a1) (impl_NetOk.f (k + 1) a0 a1) := by
 intro a0 a1 k
 obtain ⟨ih0, ih1⟩ := impl_NetOk.mono_l k
 unfold impl_NetOk.f
 have m0_ := @impl_ascending.mono
 exact mo_
set_option maxHeartbeats 8000000 in
set_option maxRecDepth 100000 in
theorem impl_NetOk.calls (k : Nat) (a0_0 : Int) (A0_1 : Option Addr) (c0_1 : Nat) (l0_1 : List (S73)) (r : Bool) (w : World) (hr0_1 : Kd.C k73 w A0_1 l0_1.length l0_1) (hc0_1 : l0_1.length ≤ c0_1) (h : impl_NetOk.f k a0_0 l0_1 = some r) :
  Calls Try.prog 91 #[.agg #[.int .i64 a0_0, .slice A0_1 l0_1.length c0_1]] w fun e w' => e = .returned (.bool r) ∧ Below w.heap.size w w' := by
 have hu34 := Try.underlying34
 have hu73 := Try.underlying73
 have HR0_1 := am hr0_1
 have HC0_1 := am hc0_1
 clear hr0_1 hc0_1
 have HB := am (Below.refl w.heap.size w)
 have H : (if a0_0 < 0 then (impl_NetOk.j0 k true a0_0 l0_1) else (impl_NetOk.j0 k (decide (a0_0 > 8)) a0_0 l0_1)) = some r := h
 clear h
 have HC2 := am H
 clear H
 go_enter Try.func91, Try.ntmps91
 go_upto_region 1 with (first | ((with_reducible refine gate_dst (N := 1) rfl ?_); refine be_ 1 #[.int .i64 a0_0, .slice A0_1 l0_1.length c0_1] 34 ?_; intro gb173 hg w3 hbox hb; have BK173 := am hbox; have GW173 := am (ge_ hg HB); have GE173 := am (ge_ hg HB); replace HB := bs HB hb; clear hb hbox hg))
 (try simp only [Act.put, List.setIfInBounds_toArray, List.set_cons_zero, List.set_cons_succ])
 go_cut [12] (fun v12 wc => ∃ (kq : Nat) (x12_1 : Bool), v12 = .bool x12_1 ∧ Aside0 (impl_NetOk.j0 kq x12_1 a0_0 l0_1 = some r) ∧ Aside0 (kq ≤ k) ∧ Aside0 (wc.heap[gb173]? = some (.cells #[.int .i64 a0_0, (.slice A0_1 l0_1.length c0_1)] 34 (0, 0))) ∧ Aside0 (Below w.heap.size w wc))
 case first =>
  have H := HC2.out
  clear HC2
  by_cases c4 : a0_0 < 0
  ·rw [if_pos c4] at H
   have c4b0 := decide_eq_true c4
   clear c4
   (first | rw [c4b0] | (simp only [i64_w, i32_w]; rw [c4b0]) | skip)
   have H' := am H
   clear H
   obtain ⟨hcz5_0, hcz5_1, hfz5_0, hfz5_1⟩ := c2 BK173
   go_wp2
   go_meet
   case rel => exact ⟨_, (true), (by first | rfl | (simp; done) | (simp [*]; done)), H', ⟨by first | omega | exact Nat.le_refl _⟩, ⟨bkn BK173⟩, ⟨bn HB⟩⟩
  ·rw [if_neg c4] at H
   have c4b0 := decide_eq_false c4
   clear c4
   (first | rw [c4b0] | (simp only [i64_w, i32_w]; rw [c4b0]) | skip)
   have H' := am H
   clear H
   obtain ⟨hcz6_0, hcz6_1, hfz6_0, hfz6_1⟩ := c2 BK173
   go_wp2
   go_meet
   case rel => exact ⟨_, (decide (a0_0 > 8)), (by first | rfl | (simp; done) | (simp [*]; done)), H', ⟨by first | omega | exact Nat.le_refl _⟩, ⟨bkn BK173⟩, ⟨bn HB⟩⟩
 case rest =>
  clear HC2
  try clear p2
  try clear c4
  try clear c4b0
  try clear hcz5_0 hcz5_1 hfz5_0 hfz5_1
  try clear hcz6_0 hcz6_1 hfz6_0 hfz6_1
  obtain ⟨kq, x12_1, rfl, HA, HJ1, BK173, HB⟩ := hcut
  cases kq with
  | zero => exact absurd HA.out (by simp [impl_NetOk.j0])
  | succ kj1 =>
   have H := HA.out
   clear HA
   simp only [impl_NetOk.j0] at H
   by_cases c7 : x12_1 = true
   ·subst c7
    rw [if_pos rfl] at H
    obtain rfl := Option.some.inj H
    go_wp2
    go_ret
    exact ⟨by first | rfl | (simp [errW_none, errW_some] <;> rfl) | (simp [*, errW_none, errW_some] <;> rfl), bn HB⟩
   ·replace c7 := Bool.eq_false_iff.mpr c7
    subst c7
    rw [if_neg (show ¬ (false = true) by decide)] at H
    have H' := am H
    clear H
    obtain ⟨hcz8_0, hcz8_1, hfz8_0, hfz8_1⟩ := c2 BK173
    go_wp2
    go_loopg [16] kj1 (fun kq v16 w' => ∃ (x16_2 : Int), v16 = .int .i64 x16_2 ∧ Aside0 (impl_NetOk.l0 kq l0_1 (l0_1.length : Int) x16_2 a0_0 l0_1 = some r) ∧ Aside0 (kq ≤ kj1) ∧ Aside0 (w'.heap[gb173]? = some (.cells #[.int .i64 a0_0, (.slice A0_1 l0_1.length c0_1)] 34 (0, 0))) ∧ Aside0 (Below w.heap.size w w'))
    case atStart => exact ⟨(0), (by first | rfl | (simp; done) | (simp [*]; done)), H', ⟨Nat.le_refl _⟩, ⟨bkn BK173⟩, ⟨bn HB⟩⟩
    case round =>
     clear H'
     try clear p2
     try clear c4
     try clear c4b0
     try clear c7
     try clear hcz5_0 hcz5_1 hfz5_0 hfz5_1
     try clear hcz6_0 hcz6_1 hfz6_0 hfz6_1
     try clear hcz8_0 hcz8_1 hfz8_0 hfz8_1
     try clear p2
     obtain ⟨x16_2, rfl, HA, HK2, BK173, HB⟩ := hrel
     cases gk with
     | zero => exact absurd HA.out (by simp [impl_NetOk.l0])
     | succ k2 =>
      have H := HA.out
      clear HA
      simp only [impl_NetOk.l0] at H
      by_cases c9 : x16_2 < (l0_1.length : Int)
      ·rw [if_pos c9] at H
       have c9b0 := decide_eq_true c9
       clear c9
       obtain ⟨c10, H⟩ := ig_ H
       have c10b0 := decide_eq_true c10
       clear c10
       obtain ⟨c11, H⟩ := ig_ H
       have c11b0 := decide_eq_true c11
       clear c11
       by_cases c12 : ((rd_T73 l0_1 x16_2).f0) < 0
       ·rw [if_pos c12] at H
        have c12b0 := decide_eq_true c12
        clear c12
        obtain rfl := Option.some.inj H
        have p174 : 0 ≤ (x16_2 : Int) := oa
        have q174 : x16_2 < (l0_1.length : Int) := oa
        obtain ⟨ad174, e174, hx174_0, hx174_1⟩ := at_T73 HR0_1.out x16_2 p174 q174
        cases e174
        replace hx174_0 := (HB.out.cell (World.block_lt_of_cell? w _ hx174_0)).trans hx174_0
        replace hx174_1 := (HB.out.cell (World.block_lt_of_cell? w _ hx174_1)).trans hx174_1
        replace p174 := eq_true p174
        replace q174 := eq_true q174
        go_wp2_with (first | ((with_reducible refine gate_dst (N := 4) rfl ?_); refine be_ 4 #[.int .i64 0, .int .i64 0] 73 ?_; intro gb175 hg w13 hbox hb; have BK175 := am hbox; have GW175 := am (ge_ hg HB); have GE175 := am (ge_ hg HB); replace HB := bs HB hb; obtain ⟨NB173_175, NB175_173⟩ := nb_ hg BK173; replace BK173 := bb BK173 hb; clear hb hbox hg; obtain ⟨hnb14, hnc14⟩ := n2 NB175_173 NB173_175; obtain ⟨hcz15_0, hcz15_1, hfz15_0, hfz15_1⟩ := c2 BK175))
        go_ret
        exact ⟨by first | rfl | (simp [errW_none, errW_some] <;> rfl) | (simp [*, errW_none, errW_some] <;> rfl), bn HB⟩
       ·rw [if_neg c12] at H
        have c12b0 := decide_eq_false c12
        clear c12
        by_cases c16 : ((rd_T73 l0_1 x16_2).f0) ≥ ((rd_T73 l0_1 x16_2).f1)
        ·rw [if_pos c16] at H
         have c16b0 := decide_eq_true c16
         clear c16
         obtain rfl := Option.some.inj H
         have p174 : 0 ≤ (x16_2 : Int) := oa
         have q174 : x16_2 < (l0_1.length : Int) := oa
         obtain ⟨ad174, e174, hx174_0, hx174_1⟩ := at_T73 HR0_1.out x16_2 p174 q174
         cases e174
         replace hx174_0 := (HB.out.cell (World.block_lt_of_cell? w _ hx174_0)).trans hx174_0
         replace hx174_1 := (HB.out.cell (World.block_lt_of_cell? w _ hx174_1)).trans hx174_1
         replace p174 := eq_true p174
         replace q174 := eq_true q174
         go_wp2_with (first | ((with_reducible refine gate_dst (N := 4) rfl ?_); refine be_ 4 #[.int .i64 0, .int .i64 0] 73 ?_; intro gb175 hg w17 hbox hb; have BK175 := am hbox; have GW175 := am (ge_ hg HB); have GE175 := am (ge_ hg HB); replace HB := bs HB hb; obtain ⟨NB173_175, NB175_173⟩ := nb_ hg BK173; replace BK173 := bb BK173 hb; clear hb hbox hg; obtain ⟨hnb18, hnc18⟩ := n2 NB175_173 NB173_175; obtain ⟨hcz19_0, hcz19_1, hfz19_0, hfz19_1⟩ := c2 BK175))
         go_ret
         exact ⟨by first | rfl | (simp [errW_none, errW_some] <;> rfl) | (simp [*, errW_none, errW_some] <;> rfl), bn HB⟩
        ·rw [if_neg c16] at H
         have c16b0 := decide_eq_false c16
         clear c16
         by_cases c20 : ((rd_T73 l0_1 x16_2).f1) ≥ a0_0
         ·rw [if_pos c20] at H
          have c20b0 := decide_eq_true c20
          clear c20
          obtain rfl := Option.some.inj H
          have p174 : 0 ≤ (x16_2 : Int) := oa
          have q174 : x16_2 < (l0_1.length : Int) := oa
          obtain ⟨ad174, e174, hx174_0, hx174_1⟩ := at_T73 HR0_1.out x16_2 p174 q174
          cases e174
          replace hx174_0 := (HB.out.cell (World.block_lt_of_cell? w _ hx174_0)).trans hx174_0
          replace hx174_1 := (HB.out.cell (World.block_lt_of_cell? w _ hx174_1)).trans hx174_1
          replace p174 := eq_true p174
          replace q174 := eq_true q174
          go_wp2_with (first | ((with_reducible refine gate_dst (N := 4) rfl ?_); refine be_ 4 #[.int .i64 0, .int .i64 0] 73 ?_; intro gb175 hg w21 hbox hb; have BK175 := am hbox; have GW175 := am (ge_ hg HB); have GE175 := am (ge_ hg HB); replace HB := bs HB hb; obtain ⟨NB173_175, NB175_173⟩ := nb_ hg BK173; replace BK173 := bb BK173 hb; clear hb hbox hg; obtain ⟨hnb22, hnc22⟩ := n2 NB175_173 NB173_175; obtain ⟨hcz23_0, hcz23_1, hfz23_0, hfz23_1⟩ := c2 BK175; obtain ⟨hcz24_0, hcz24_1, hfz24_0, hfz24_1⟩ := c2 BK173))
          go_ret
          exact ⟨by first | rfl | (simp [errW_none, errW_some] <;> rfl) | (simp [*, errW_none, errW_some] <;> rfl), bn HB⟩
         ·rw [if_neg c20] at H
          have c20b0 := decide_eq_false c20
          clear c20
          have H' := am H
          clear H
          have p174 : 0 ≤ (x16_2 : Int) := oa
          have q174 : x16_2 < (l0_1.length : Int) := oa
          obtain ⟨ad174, e174, hx174_0, hx174_1⟩ := at_T73 HR0_1.out x16_2 p174 q174
          cases e174
          replace hx174_0 := (HB.out.cell (World.block_lt_of_cell? w _ hx174_0)).trans hx174_0
          replace hx174_1 := (HB.out.cell (World.block_lt_of_cell? w _ hx174_1)).trans hx174_1
          replace p174 := eq_true p174
          replace q174 := eq_true q174
          go_wp2_with (first | ((with_reducible refine gate_dst (N := 4) rfl ?_); refine be_ 4 #[.int .i64 0, .int .i64 0] 73 ?_; intro gb175 hg w25 hbox hb; have BK175 := am hbox; have GW175 := am (ge_ hg HB); have GE175 := am (ge_ hg HB); replace HB := bs HB hb; obtain ⟨NB173_175, NB175_173⟩ := nb_ hg BK173; replace BK173 := bb BK173 hb; clear hb hbox hg; obtain ⟨hnb26, hnc26⟩ := n2 NB175_173 NB173_175; obtain ⟨hcz27_0, hcz27_1, hfz27_0, hfz27_1⟩ := c2 BK175; obtain ⟨hcz28_0, hcz28_1, hfz28_0, hfz28_1⟩ := c2 BK173))
          go_roundg k2
          case measure => have := HJ1.out; have := HK2.out; omega
          case rel => exact ⟨(wrap64 (x16_2 + 1)), (by first | rfl | (simp; done) | (simp [*]; done)), H', ⟨by have := HJ1.out; have := HK2.out; omega⟩, ⟨bkn BK173⟩, ⟨bn HB⟩⟩
      ·rw [if_neg c9] at H
       have c9b0 := decide_eq_false c9
       clear c9
       replace H := Option.bind_eq_some_iff.mp H
       obtain ⟨t176, A290, H⟩ := H
       (try dsimp only at H)
       have A29 := am A290
       clear A290
       obtain rfl := Option.some.inj H
       obtain ⟨hcz30_0, hcz30_1, hfz30_0, hfz30_1⟩ := c2 BK173
       go_wp2_with (first | ((with_reducible refine gate_callee (f := 130) rfl ?_); refine gl_ (some 40) Try.func130 #[.slice A0_1 l0_1.length c0_1] ?_; (with_reducible refine (impl_ascending.calls k2 _ _ l0_1 t176 _ ?side1 ?side2 A29.out).mono ?_); (case side1 => exact cb HR0_1 HB); (case side2 => exact HC0_1.out); rintro e w31 ⟨rfl, hb⟩; refine ⟨_, rfl, ?_⟩; replace BK173 := bb BK173 hb; replace HB := bs HB hb; (try clear hb); (try clear hi)))
       go_ret
       exact ⟨by first | rfl | (simp [errW_none, errW_some] <;> rfl) | (simp [*, errW_none, errW_some] <;> rfl), bn HB⟩

end Go.Proofs.Ytdlnnjgjfngccaa.F
