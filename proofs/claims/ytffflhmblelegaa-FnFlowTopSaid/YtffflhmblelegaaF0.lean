-- By oprint.py.
import Derived.Test.YtffflhmblelegaaProg
import Derived.Test.YtffflhmblelegaaProg
import Derived.Test.YtffflhmblelegaaWs
namespace Go.Proofs.Ytffflhmblelegaa.F
open Go.RowKit Go.Proofs.YtffflhmblelegaaW.PrintWords Go.Proofs.YtffflhmblelegaaW.PrintLast Go.Proofs.YtffflhmblelegaaW.PrintMore
attribute [local go_sem] max2_int min2_int max_two min_two max_three min_three max_four min_four
set_option linter.unusedVariables false
set_option linter.unusedSimpArgs false
def errW : Option Int → Value
 | none => .nilIface
 | some c => .iface 0 (.int .i64 c)
theorem errW_none : errW none = .nilIface := rfl
theorem errW_some (c : Int) : errW (some c) = .iface 0 (.int .i64 c) := rfl
theorem info3 : (Try.prog.info? 3).map (fun i => (i.zero, i.size, i.bytes)) = some (some (.int .i64 0), 1, 8) := by kernel_rfl
theorem info5 : (Try.prog.info? 5).map (fun i => (i.zero, i.size, i.bytes)) = some (some (.int .u8 0), 1, 1) := by kernel_rfl
theorem info30 : (Try.prog.info? 30).map (fun i => (i.zero, i.size, i.bytes)) = some (some (.slice none 0 0), 1, 24) := by kernel_rfl
theorem info52 : (Try.prog.info? 52).map (fun i => (i.zero, i.size, i.bytes)) = some (some (.agg #[(.int .i64 0), (.int .i64 0)]), 2, 16) := by kernel_rfl
-- the values' own types
/-! #### struct type 52 -/
structure S52 where
 f0 : Int
 f1 : Int
def z52 : S52 := ⟨(0 : Int), (0 : Int)⟩
def k52 : Kd S52 := Kd.iso (Kd.pair (Kd.int .i64) (Kd.int .i64)) (fun x : S52 => (x.f0, x.f1))
theorem k52_open {w : World} {x : S52} {cs : List Value} (h : k52.K w x cs) : cs = [.int .i64 x.f0, .int .i64 x.f1] := by
 obtain ⟨_, _, rfl, rfl, rfl⟩ := h; exact rfl
theorem k52_openM {w : World} {base : Nat} {ok : Nat → Prop} {x : S52} {cs : List Value} (h : k52.M w base ok x cs) : cs = [.int .i64 x.f0, .int .i64 x.f1] := by
 obtain ⟨_, _, rfl, rfl, rfl⟩ := h; exact rfl
theorem k52_mkM (w : World) (base : Nat) (ok : Nat → Prop) (x : S52)  : k52.M w base ok x [.int .i64 x.f0, .int .i64 x.f1] := ⟨[.int .i64 x.f0], [.int .i64 x.f1], rfl, rfl, rfl⟩
def rd_T52 (xs : List S52) (i : Int) : S52 := xs.getD i.toNat z52
theorem at_T52 {w : World} {A : Option Addr} {n : Nat} {xs : List S52} (h : Kd.C k52 w A n xs) (i : Int) (h0 : 0 ≤ i) (h1 : i < n) : ∃ ad , A = some ad ∧ w.cell? (ad.add (i.toNat * 2)) = some (.int .i64 (rd_T52 xs i).f0) ∧ w.cell? ⟨(ad.add (i.toNat * 2)).block, (ad.add (i.toNat * 2)).off + 1, none⟩ = some (.int .i64 (rd_T52 xs i).f1) := by
 obtain ⟨ad, c, e, _, hK, hc0⟩ := Kd.C_get h z52 i h0 h1; have hc : ∀ j u, c[j]? = some u → w.cell? (ad.add (i.toNat * 2 + j)) = some u := hc0; obtain rfl := k52_open hK; exact ⟨ad, e, hc 0 _ rfl, by rw [← add_field _ _ 1 (by omega)]; exact hc 1 _ rfl⟩
def rd_L2 (xs : List (List Int)) (i : Int) : (List Int) := xs.getD i.toNat ([] : List Int)
theorem at_L2 {w : World} {A : Option Addr} {n : Nat} {xs : List (List Int)} (h : Kd.C (Kd.slice 3 (Kd.int .i64)) w A n xs) (i : Int) (h0 : 0 ≤ i) (h1 : i < n) : ∃ ad A0 c0, A = some ad ∧ w.cell? (ad.add i.toNat) = some (.slice A0 (rd_L2 xs i).length c0) ∧ (rd_L2 xs i).length ≤ c0 ∧ (Kd.int .i64).C w A0 (rd_L2 xs i).length (rd_L2 xs i) := by
 obtain ⟨ad, c, e, _, hK, hc0⟩ := Kd.C_get h ([] : List Int) i h0 h1; have hc : ∀ j u, c[j]? = some u → w.cell? (ad.add (i.toNat * 1 + j)) = some u := hc0; obtain ⟨A0, c0, rfl, l0, g0⟩ := hK; exact ⟨ad, A0, c0, e, by have hq := hc 0 _ rfl; rwa [Nat.mul_one, Nat.add_zero] at hq, l0, g0⟩
structure S25 where
 f0 : Int
 f1 : (List S52)
def z25 : S25 := ⟨(0 : Int), ([] : List S52)⟩
structure S190 where
 f0 : Int
structure S117 where
 f0 : Int
 f1 : Int
def z117 : S117 := ⟨(0 : Int), (0 : Int)⟩
instance : NeT (3 :: (Kd.int .i64).E) 25 := ⟨by decide⟩
instance : NeT (3 :: (Kd.int .i64).E) 41 := ⟨by decide⟩
instance : NeT (3 :: (Kd.int .i64).E) 52 := ⟨by decide⟩
instance : NeT (3 :: (Kd.int .i64).E) 105 := ⟨by decide⟩
instance : NeT (3 :: (Kd.int .i64).E) 114 := ⟨by decide⟩
instance : NeT (3 :: (Kd.int .i64).E) 117 := ⟨by decide⟩
instance : NeT (30 :: (Kd.slice 3 (Kd.int .i64)).E) 25 := ⟨by decide⟩
instance : NeT (30 :: (Kd.slice 3 (Kd.int .i64)).E) 41 := ⟨by decide⟩
instance : NeT (30 :: (Kd.slice 3 (Kd.int .i64)).E) 52 := ⟨by decide⟩
instance : NeT (30 :: (Kd.slice 3 (Kd.int .i64)).E) 105 := ⟨by decide⟩
instance : NeT (30 :: (Kd.slice 3 (Kd.int .i64)).E) 114 := ⟨by decide⟩
instance : NeT (30 :: (Kd.slice 3 (Kd.int .i64)).E) 117 := ⟨by decide⟩
instance : NeT (52 :: k52.E) 25 := ⟨by decide⟩
instance : NeT (52 :: k52.E) 41 := ⟨by decide⟩
instance : NeT (52 :: k52.E) 105 := ⟨by decide⟩
instance : NeT (52 :: k52.E) 114 := ⟨by decide⟩
instance : NeT (52 :: k52.E) 117 := ⟨by decide⟩
instance : NeT (23 :: (Kd.slice 52 k52).E) 25 := ⟨by decide⟩
instance : NeT (23 :: (Kd.slice 52 k52).E) 41 := ⟨by decide⟩
instance : NeT (23 :: (Kd.slice 52 k52).E) 105 := ⟨by decide⟩
instance : NeT (23 :: (Kd.slice 52 k52).E) 114 := ⟨by decide⟩
instance : NeT (23 :: (Kd.slice 52 k52).E) 117 := ⟨by decide⟩
end Go.Proofs.Ytffflhmblelegaa.F
