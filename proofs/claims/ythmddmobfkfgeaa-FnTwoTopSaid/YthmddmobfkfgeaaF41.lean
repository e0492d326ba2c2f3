-- By oprint.py.
import Derived.Test.YthmddmobfkfgeaaF0
import Derived.Test.YthmddmobfkfgeaaF40
namespace Go.Proofs.Ythmddmobfkfgeaa.F
open Go.RowKit Go.Proofs.YthmddmobfkfgeaaW.PrintWords Go.Proofs.YthmddmobfkfgeaaW.PrintLast Go.Proofs.YthmddmobfkfgeaaW.PrintMore
attribute [local go_sem] max2_int min2_int max_two min_two max_three min_three max_four min_four
set_option linter.unusedVariables false
set_option linter.unusedSimpArgs false

/-! ### impl_Net_joined: function 121 -/
def impl_Net_joined.f (k : Nat) (a0_0 : Int) (l0_1 : List (S33)) (a1 : Int) (a2 : Int) : Option (Bool) := (impl_Net_parts.f k a0_0 l0_1).bind fun t782 => (if 0 ≤ a1 then (if a1 < (t782.length : Int) then (if 0 ≤ a2 then (if a2 < (t782.length : Int) then (some ((rd t782 a1) == (rd t782 a2))) else (none)) else (none)) else (none)) else (none))
theorem impl_Net_joined.mono : ∀ a b c d k, LeO (impl_Net_joined.f k a b c d) (impl_Net_joined.f (k + 1) a b c d) := by
 intro a b c d k; unfold impl_Net_joined.f; have m0_ := @impl_Net_parts.mono; exact mo_
set_option maxHeartbeats 8000000 in
set_option maxRecDepth 100000 in
theorem impl_Net_joined.calls (k : Nat) (o : Int) (q : Option Addr) (s : Nat) (d : List (S33)) (a : Int) (b : Int) (r : Bool) (w : World) (E : Kd.C k33 w q d.length d) (G : d.length ≤ s) (h : impl_Net_joined.f k o d a b = some r) :
  Calls Try.prog 121 #[.agg #[.int .i64 o, .slice q d.length s], .int .i64 a, .int .i64 b] w fun e w' => e = .returned (.bool r) ∧ Below w.heap.size w w' := by
 have X := Try.underlying31; have A := am E; have B := am G; clear E G; have HB := am (Below.refl w.heap.size w)
 have H : ((impl_Net_parts.f k o d).bind fun c => (if 0 ≤ a then (if a < (c.length : Int) then (if 0 ≤ b then (if b < (c.length : Int) then (some ((rd c a) == (rd c b))) else (none)) else (none)) else (none)) else (none))) = some r := h
 clear h; obtain ⟨c, D, H⟩ := bi_ H; obtain ⟨Y, H⟩ := id_ H; obtain ⟨Z, H⟩ := id_ H; obtain ⟨aa, H⟩ := id_ H; obtain ⟨ab, H⟩ := id_ H; obtain rfl := Option.some.inj H; go_enter Try.func121, Try.ntmps121
 go_wp2_with (first | ((with_reducible refine gate_dst (N := 3) rfl ?_); refine bx_ 3 #[.int .i64 o, .slice q d.length s] 31 HB ?_; clear HB; intro I hg J hb g K HB; clear hb hg; have L := c2 g) | (go_at_call 139; (with_reducible refine (impl_Net_parts.calls k o _ _ d c _ ?z_1 ?z_2 D.out).mono ?_); (case z_1 => exact cb A HB); (case z_2 => exact B.out); rintro e M ⟨O, rfl, p, hb⟩; have i := am (Kd.R_lower p (below_size (bn HB))); replace g := bb g hb; replace HB := bs HB hb; (try clear hb p); obtain ⟨P, T, t⟩ := Kd.R_slice i.out; subst t; have j : 0 ≤ (a : Int) := oa; have l : a < (c.length : Int) := oa; obtain ⟨u, x, U⟩ := Kd.at_int (Kd.R_reads' i.out).2.2 a j l; cases x; replace j := eq_true j; replace l := eq_true l; have m : 0 ≤ (b : Int) := oa; have n : b < (c.length : Int) := oa; obtain ⟨y, z, W⟩ := Kd.at_int (Kd.R_reads' i.out).2.2 b m n; obtain rfl : u = y := (by injection z); replace m := eq_true m; replace n := eq_true n))
 repeat (go_quiet (first | ((with_reducible refine gate_dst (N := 3) rfl ?_); refine bx_ 3 #[.int .i64 o, .slice q d.length s] 31 HB ?_; clear HB; intro I hg J hb g K HB; clear hb hg; have L := c2 g) | (go_at_call 139; (with_reducible refine (impl_Net_parts.calls k o _ _ d c _ ?z_1 ?z_2 D.out).mono ?_); (case z_1 => exact cb A HB); (case z_2 => exact B.out); rintro e M ⟨O, rfl, p, hb⟩; have i := am (Kd.R_lower p (below_size (bn HB))); replace g := bb g hb; replace HB := bs HB hb; (try clear hb p); obtain ⟨P, T, t⟩ := Kd.R_slice i.out; subst t; have j : 0 ≤ (a : Int) := oa; have l : a < (c.length : Int) := oa; obtain ⟨u, x, U⟩ := Kd.at_int (Kd.R_reads' i.out).2.2 a j l; cases x; replace j := eq_true j; replace l := eq_true l; have m : 0 ≤ (b : Int) := oa; have n : b < (c.length : Int) := oa; obtain ⟨y, z, W⟩ := Kd.at_int (Kd.R_reads' i.out).2.2 b m n; obtain rfl : u = y := (by injection z); replace m := eq_true m; replace n := eq_true n)); try go_wp2_with (first | ((with_reducible refine gate_dst (N := 3) rfl ?_); refine bx_ 3 #[.int .i64 o, .slice q d.length s] 31 HB ?_; clear HB; intro I hg J hb g K HB; clear hb hg; have L := c2 g) | (go_at_call 139; (with_reducible refine (impl_Net_parts.calls k o _ _ d c _ ?z_1 ?z_2 D.out).mono ?_); (case z_1 => exact cb A HB); (case z_2 => exact B.out); rintro e M ⟨O, rfl, p, hb⟩; have i := am (Kd.R_lower p (below_size (bn HB))); replace g := bb g hb; replace HB := bs HB hb; (try clear hb p); obtain ⟨P, T, t⟩ := Kd.R_slice i.out; subst t; have j : 0 ≤ (a : Int) := oa; have l : a < (c.length : Int) := oa; obtain ⟨u, x, U⟩ := Kd.at_int (Kd.R_reads' i.out).2.2 a j l; cases x; replace j := eq_true j; replace l := eq_true l; have m : 0 ≤ (b : Int) := oa; have n : b < (c.length : Int) := oa; obtain ⟨y, z, W⟩ := Kd.at_int (Kd.R_reads' i.out).2.2 b m n; obtain rfl : u = y := (by injection z); replace m := eq_true m; replace n := eq_true n)))
 go_ret
 exact ⟨er_, bn HB⟩

end Go.Proofs.Ythmddmobfkfgeaa.F
