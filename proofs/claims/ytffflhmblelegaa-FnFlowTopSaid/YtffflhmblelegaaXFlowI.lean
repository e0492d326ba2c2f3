/-
The walk through the program's 'flow': two tables of numbers in memory (room from knot to knot, and from where each knot was come to); what it answers is the plain function's answer.
-/
import Derived.Test.YtffflhmblelegaaF0
import Derived.Deep.WholeRow
namespace Go.Proofs.Ytffflhmblelegaa.F
open Go.RowKit Go.Proofs.YtffflhmblelegaaW.PrintWords Go.Proofs.YtffflhmblelegaaW.PrintLast Go.Proofs.YtffflhmblelegaaW.PrintMore
attribute [local go_sem] max2_int min2_int max_two min_two max_three min_three max_four min_four
set_option linter.unusedVariables false
set_option linter.unusedSimpArgs false
def ints (xs : List Int) : Array Value := (xs.map (Value.int .i64)).toArray
theorem run_alloc_zero {P : Program} (W : World) (T : TypeId) (zs : Array Value) (hz : (P.info? T).map (·.zero) = some (some (.agg zs))) : (Instr.alloc T true (.tuple #[])).run P W = .ok (.pointer (some ⟨W.heap.size, 0, none⟩)) (W.alloc (.cells zs T)) := by
  cases h : P.info? T with
  | none => simp [h] at hz
  | some i =>
    simp only [h, Option.map_some, Option.some.injEq] at hz
    simp [Instr.alloc, zeroValue, typeInfo, h, hz, newVar, newRow, newObj, Value.cells]
    rfl
theorem arr_new {P : Program} {ops : Array Oper} {rest : List Oper} {Q : Exit → Act → World → Prop} {a : Act} {W : World} {o1 o2 o3 : Oper} (t1 t2 : Tmp) (T : TypeId) (zs : Array Value)
    (h : ∀ (Z : Array Value) g, g = W.heap.size → ∀ w1, w1.heap[g]? = some (.cells zs T (0, 0)) → Below W.heap.size W w1 → wpList P ops Q rest ((a.put (some t1) (.agg Z)).put (some t2) (.pointer (some ⟨g, 0, none⟩))) w1)
    (hb : P.built T [] = some zs) (hz : (P.info? T).map (·.zero) = some (some (.agg zs))) (hi : (P.info? T).map (·.size) = some zs.size) (h1 : zs.all (·.oneCell') = true)
    (hd1 : o1.dst = some t1 := by rfl) (hd2 : o2.dst = some t2 := by rfl) (hd3 : o3.dst = none := by rfl) (hg1 : o1.guard = none := by rfl) (hg2 : o2.guard = none := by rfl) (hg3 : o3.guard = none := by rfl)
    (hp1 : o1.op = .build T #[] := by rfl) (hp2 : o2.op = .alloc T := by rfl) (hp3 : o3.op = .store T (.tmp t2) (.tmp t1) := by rfl) (ht : t1 ≠ t2 := by decide) (hs1 : t1 < a.tmps.size := by first | decide | simp) (hs2 : t2 < a.tmps.size := by first | decide | simp) :
    wpList P ops Q (o1 :: o2 :: o3 :: rest) a W := by
  refine wpList_plain hg1 fun K hK => ?_
  refine wp_build T #[] hp1 (by simp [hb]) ?_
  have e1 : (P.built T ((#[] : Array (Nat × Operand)).map fun (i, x) => (i, a.eval x)).toList).getD #[] = zs := by simp [hb]
  rw [e1]
  refine hK _ _ ?_
  refine wpList_plain hg2 fun K2 hK2 => ?_
  have e2 : (execOp (a.put o1.dst (.agg zs)).eval o2).run P W = .ok (.value (.pointer (some ⟨W.heap.size, 0, none⟩))) (W.alloc (.cells zs T)) := by
    unfold execOp
    simp only [hp2, Sem.run_bind, run_alloc_zero W T zs hz, Result.andThen_ok]
    rfl
  unfold Oper.wp
  rw [e2]
  refine hK2 _ _ ?_
  refine wpList_plain hg3 fun K3 hK3 => ?_
  rw [hd1, hd2]
  refine wp_store_row T (.tmp t2) (.tmp t1) hp3 W.heap.size zs ?_ ?_ T zs (heap_alloc_last W _) hi rfl h1 ?_
  · simp [Act.eval, Act.put, hs2]
  · simp [Act.eval, Act.put, hs1, Array.getElem_setIfInBounds, Ne.symm ht]
  · refine hK3 _ _ ?_
    rw [World.setRow_alloc_new, hd3]
    exact h zs _ rfl _ (heap_alloc_last W _) (below_alloc (Below.refl _ _) _)
theorem ints_set (xs : List Int) (i : Nat) (v : Int) : (ints xs).setIfInBounds i (.int .i64 v) = ints (xs.set i v) := by
  apply Array.ext'
  simp [ints, List.map_set]
theorem arr_put {W : World} {g : Nat} {t : TypeId} {xs : List Int} (B : Bk W g (.cells (ints xs) t (0, 0))) (i : Nat) (v : Int) : Bk (W.setCell ⟨g, i, none⟩ (.int .i64 v)) g (.cells (ints (xs.set i v)) t (0, 0)) := ⟨blk_put B.out i _ (ints_set xs i v)⟩
theorem arr_cell {W : World} {g : Nat} {t : TypeId} {xs : List Int} (B : Bk W g (.cells (ints xs) t (0, 0))) (i : Nat) (h : i < xs.length) : W.cell? ⟨g, i, none⟩ = some (.int .i64 (xs.getD i 0)) :=
  (blk_cell B.out i).trans (by simp [ints, h, List.getD_eq_getElem?_getD])
theorem ints_one (xs : List Int) : (ints xs).all (·.oneCell') = true := by
  rw [Array.all_eq_true_iff_forall_mem]
  intro v hv
  obtain ⟨x, _, rfl⟩ := List.mem_map.1 (by simpa [ints] using hv : v ∈ xs.map (Value.int .i64))
  rfl
theorem zero114 : Try.prog.built 110 [] = some (ints (List.replicate 8 0)) := by kernel_rfl
theorem zero115 : Try.prog.built 111 [] = some (ints (List.replicate 64 0)) := by kernel_rfl
theorem infoz114 : (Try.prog.info? 110).map (·.zero) = some (some (.agg (ints (List.replicate 8 0)))) := by kernel_rfl
theorem infoz115 : (Try.prog.info? 111).map (·.zero) = some (some (.agg (ints (List.replicate 64 0)))) := by kernel_rfl
theorem infos114 : (Try.prog.info? 110).map (·.size) = some (ints (List.replicate 8 0)).size := by kernel_rfl
theorem infos115 : (Try.prog.info? 111).map (·.size) = some (ints (List.replicate 64 0)).size := by kernel_rfl
def at2 (i j : Int) : Nat := i.toNat * 8 + j.toNat
mutual
/-- The ties, each way. -/
def impl_Net_flow.l0 : Nat → List (S52) → Int → Int → Int → Int → Int → List Int → Option Int
 | 0, _, _, _, _, _, _, _ => none
 | k + 1, E, m, x, n, a, b, room => if x < m then (if 0 ≤ x then (if x < (E.length : Int) then (if 0 ≤ (rd_T52 E x).f0 then (if (rd_T52 E x).f0 < 8 then (if 0 ≤ (rd_T52 E x).f1 then (if (rd_T52 E x).f1 < 8 then (impl_Net_flow.l0 k E m (wrap64 (x + 1)) n a b ((room.set (at2 (rd_T52 E x).f0 (rd_T52 E x).f1) 1).set (at2 (rd_T52 E x).f1 (rd_T52 E x).f0) 1)) else none) else none) else none) else none) else none) else none) else (impl_Net_flow.l1 k n a b room 0)
/-- A way more. -/
def impl_Net_flow.l1 : Nat → Int → Int → Int → List Int → Int → Option Int
 | 0, _, _, _, _, _ => none
 | k + 1, n, a, b, room, many => impl_Net_flow.l2 k n a b room many (List.replicate 8 0) 0
/-- None is come to. -/
def impl_Net_flow.l2 : Nat → Int → Int → Int → List Int → Int → List Int → Int → Option Int
 | 0, _, _, _, _, _, _, _ => none
 | k + 1, n, a, b, room, many, fr, j => if j < 8 then (if 0 ≤ j then (impl_Net_flow.l2 k n a b room many (fr.set j.toNat (-1)) (wrap64 (j + 1))) else none) else (if 0 ≤ a then (if a < 8 then (impl_Net_flow.l3 k n a b room many (fr.set a.toNat a) ([a] : List Int) 0) else none) else none)
/-- The row's knots. -/
def impl_Net_flow.l3 : Nat → Int → Int → Int → List Int → Int → List Int → List Int → Int → Option Int
 | 0, _, _, _, _, _, _, _, _ => none
 | k + 1, n, a, b, room, many, fr, q, x => if x < (q.length : Int) then (impl_Net_flow.l4 k n a b room many fr q x 0) else (if 0 ≤ b then (if b < 8 then (if rd fr b < 0 then (some many) else (impl_Net_flow.l5 k n a b room many fr b)) else none) else none)
/-- From one of them on. -/
def impl_Net_flow.l4 : Nat → Int → Int → Int → List Int → Int → List Int → List Int → Int → Int → Option Int
 | 0, _, _, _, _, _, _, _, _, _ => none
 | k + 1, n, a, b, room, many, fr, q, x, v => if v < n then (if 0 ≤ v then (if v < 8 then (if rd fr v < 0 then (if 0 ≤ x then (if x < (q.length : Int) then (if 0 ≤ rd q x then (if rd q x < 8 then (if room.getD (at2 (rd q x) v) 0 > 0 then (if q.length < 17592186044416 then (impl_Net_flow.l4 k n a b room many (fr.set v.toNat (rd q x)) (q ++ [v]) x (wrap64 (v + 1))) else none) else (impl_Net_flow.l4 k n a b room many fr q x (wrap64 (v + 1)))) else none) else none) else none) else none) else (impl_Net_flow.l4 k n a b room many fr q x (wrap64 (v + 1)))) else none) else none) else (impl_Net_flow.l3 k n a b room many fr q (wrap64 (x + 1)))
/-- The way back. -/
def impl_Net_flow.l5 : Nat → Int → Int → Int → List Int → Int → List Int → Int → Option Int
 | 0, _, _, _, _, _, _, _ => none
 | k + 1, n, a, b, room, many, fr, v => if v = a then (impl_Net_flow.l1 k n a b room (wrap64 (many + 1))) else (if 0 ≤ v then (if v < 8 then (if 0 ≤ rd fr v then (if rd fr v < 8 then ((fun room1 : List Int => impl_Net_flow.l5 k n a b (room1.set (at2 v (rd fr v)) (wrap64 (room1.getD (at2 v (rd fr v)) 0 + 1))) many fr (rd fr v)) (room.set (at2 (rd fr v) v) (wrap64 (room.getD (at2 (rd fr v) v) 0 - 1)))) else none) else none) else none) else none)
end
def impl_Net_flow.f (k : Nat) (a0_0 : Int) (l0_1 : List (S52)) (a1 : Int) (a2 : Int) : Option Int := impl_Net_flow.l0 k l0_1 (l0_1.length : Int) 0 a0_0 a1 a2 (List.replicate 64 0)
def impl_Net_flow.T5 : Bool × List (List Nat × List Nat) := (true, [([], []), ([0], [0]), ([], []), ([2], [2]), ([], []), ([4], [4]), ([], []), ([6], [6]), ([1], [1]), ([8, 3, 0, 1, 2, 3], [3, 8]), ([9, 0, 1, 2, 3], [9]), ([5], [5]), ([11, 7, 0, 1, 2, 3, 4, 5, 6, 7, 8, 9, 10], [7, 11]), ([12, 10, 0, 1, 2, 3, 4, 5, 6, 7, 8, 9, 10], [12])])
def impl_Net_flow.B5 : List Nat := [0, 1, 0, 4, 0, 16, 0, 64, 3, 271, 783, 48, 4095, 8191]
theorem impl_Net_flow.tab5 : rtab .any (opsOf Try.f57 5) = impl_Net_flow.T5 := by kernel_rfl
theorem impl_Net_flow.bits5 : waitsOk impl_Net_flow.T5.2 impl_Net_flow.B5 = true := by kernel_rfl
def impl_Net_flow.T32 : Bool × List (List Nat × List Nat) := (true, [([], []), ([0], [0]), ([1], [1]), ([], []), ([2], [2]), ([4, 3], [3, 4]), ([5], [5]), ([6], [6]), ([2], [2]), ([8, 3, 0, 1, 2, 3, 4, 5, 6, 7], [3, 8]), ([9, 7, 0, 1, 2, 3, 4, 5, 6, 7], [7, 9])])
def impl_Net_flow.B32 : List Nat := [0, 1, 3, 0, 7, 31, 63, 127, 7, 511, 1023]
theorem impl_Net_flow.tab32 : rtab .any (opsOf Try.f57 32) = impl_Net_flow.T32 := by kernel_rfl
theorem impl_Net_flow.bits32 : waitsOk impl_Net_flow.T32.2 impl_Net_flow.B32 = true := by kernel_rfl
def impl_Net_flow.T33 : Bool × List (List Nat × List Nat) := (true, [([], []), ([], []), ([1], [1]), ([2], [2]), ([0], [0]), ([4, 3], [3, 4]), ([5], [5]), ([6], [6]), ([0], [0]), ([8, 3, 0, 1, 2, 3, 4, 5, 6, 7], [3, 8]), ([9, 7, 0, 1, 2, 3, 4, 5, 6, 7], [7, 9])])
def impl_Net_flow.B33 : List Nat := [0, 0, 2, 6, 1, 31, 63, 127, 1, 511, 1023]
theorem impl_Net_flow.tab33 : rtab .any (opsOf Try.f57 33) = impl_Net_flow.T33 := by kernel_rfl
theorem impl_Net_flow.bits33 : waitsOk impl_Net_flow.T33.2 impl_Net_flow.B33 = true := by kernel_rfl
set_option maxHeartbeats 0 in
set_option maxRecDepth 100000 in
theorem impl_Net_flow.calls (k : Nat) (a0_0 : Int) (A0_1 : Option Addr) (c0_1 : Nat) (l0_1 : List (S52)) (a1 : Int) (a2 : Int) (r : Int) (w : World) (hr0_1 : Kd.C k52 w A0_1 l0_1.length l0_1) (hc0_1 : l0_1.length ≤ c0_1) (h : impl_Net_flow.f k a0_0 l0_1 a1 a2 = some r) :
  Calls Try.prog 57 #[.agg #[.int .i64 a0_0, .slice A0_1 l0_1.length c0_1], .int .i64 a1, .int .i64 a2] w fun e w' => e = .returned (.int .i64 r) ∧ Below w.heap.size w w' := by
 have hu34 := Try.underlying25
 have hu73 := Try.underlying52
 have hu114 := Try.underlying110
 have hu115 := Try.underlying111
 have HR0_1 := am hr0_1
 have HC0_1 := am hc0_1
 clear hr0_1 hc0_1
 have HB := am (Below.refl w.heap.size w)
 have H' := am (show impl_Net_flow.l0 k l0_1 (l0_1.length : Int) 0 a0_0 a1 a2 (List.replicate 64 0) = some r from h)
 clear h
 go_enter Try.func57, Try.ntmps57
 go_upto_region 1 with (first | ((with_reducible refine gate_dst (N := 3) rfl ?_); refine be_ 3 #[.int .i64 a0_0, .slice A0_1 l0_1.length c0_1] 25 ?_; intro gb1 hg w3 hbox hb; have BKn := bm hbox; have GEn := am (ge_ hg HB); replace HB := am (below_step (bn HB) hb); clear hb hbox hg; obtain ⟨hcz3_0, hcz3_1, hfz3_0, hfz3_1⟩ := c2 BKn))
 go_step
 (with_reducible refine gate_dst (N := 17) rfl ?_)
 refine arr_new 17 7 111 (ints (List.replicate 64 0)) ?_ zero115 infoz115 infos115 (ints_one _)
 intro Z17 gR hg w4 hbox hb
 have BKr := bm hbox; have GEr := am (ge_ hg HB); replace HB := am (below_step (bn HB) hb); obtain ⟨NBn_r, NBr_n⟩ := nb_ hg BKn; replace BKn := bm (blk_below (bkn BKn) hb); clear hb hbox hg hcz3_0 hcz3_1 hfz3_0 hfz3_1; obtain ⟨hcz4_0, hcz4_1, hfz4_0, hfz4_1⟩ := c2 BKn
 go_wp2
 go_loopg [21] k (fun kq v21 w' => ∃ (x : Int) (room : List Int), v21 = .int .i64 x ∧ Aside0 (impl_Net_flow.l0 kq l0_1 (l0_1.length : Int) x a0_0 a1 a2 room = some r) ∧ Aside0 (kq ≤ k) ∧ Aside0 (room.length = 64) ∧ Bk w' gb1 (.cells #[.int .i64 a0_0, (.slice A0_1 l0_1.length c0_1)] 25 (0, 0)) ∧ Bk w' gR (.cells (ints room) 111 (0, 0)) ∧ Aside0 (Below w.heap.size w w'))
 case atStart => exact ⟨0, List.replicate 64 0, (by first | rfl | (simp; done) | (simp [*]; done)), H', ⟨Nat.le_refl _⟩, ⟨by simp⟩, ⟨bkn BKn⟩, ⟨bkn BKr⟩, ⟨bn HB⟩⟩
 case round =>
  clear H'
  try clear hcz4_0 hcz4_1 hfz4_0 hfz4_1
  obtain ⟨x, room, rfl, HA, HK1, HL, BKn, BKr, HB⟩ := hrel
  cases gk with
  | zero => exact absurd HA.out (by simp [impl_Net_flow.l0])
  | succ k1 =>
   have H := HA.out
   clear HA
   simp only [impl_Net_flow.l0] at H
   by_cases c1 : x < (l0_1.length : Int)
   ·rw [if_pos c1] at H
    have c1b0 := decide_eq_true c1
    replace H := ig_ H; obtain ⟨c2, H⟩ := H
    replace H := ig_ H; obtain ⟨_, H⟩ := H
    replace H := ig_ H; obtain ⟨c3, H⟩ := H
    replace H := ig_ H; obtain ⟨c4, H⟩ := H
    replace H := ig_ H; obtain ⟨c5, H⟩ := H
    replace H := ig_ H; obtain ⟨c6, H⟩ := H
    have H' := am H
    clear H
    obtain ⟨ad1, e1, hx1_0, hx1_1⟩ := at_T52 HR0_1.out x c2 c1
    cases e1
    replace hx1_0 := (HB.out.cell (World.block_lt_of_cell? w _ hx1_0)).trans hx1_0
    replace hx1_1 := (HB.out.cell (World.block_lt_of_cell? w _ hx1_1)).trans hx1_1
    have p1 := eq_true c2
    have q1 := eq_true c1
    go_upto_region 5 with (first | ((with_reducible refine gate_dst (N := 9) rfl ?_); refine be_ 9 #[.int .i64 0, .int .i64 0] 52 ?_; intro gt hg w20 hbox hb; have BKt := bm hbox; have GEt := am (ge_ hg HB); replace HB := bs HB hb; obtain ⟨NBn_t, NBt_n⟩ := nb_ hg BKn; replace BKn := bb BKn hb; obtain ⟨NBr_t, NBt_r⟩ := nb_ hg BKr; replace BKr := bb BKr hb; clear hb hbox hg; obtain ⟨hcz5_0, hcz5_1, hfz5_0, hfz5_1⟩ := Go.Proofs.YtffflhmblelegaaW.PrintWords.c2 BKt))
    have n1_ : Bk ((w20.setCell ⟨gt, 0, none⟩ (.int .i64 (rd_T52 l0_1 x).f0)).setCell ⟨gt, 1, none⟩ (.int .i64 (rd_T52 l0_1 x).f1)) gb1 (.cells #[.int .i64 a0_0, .slice (some ad1) l0_1.length c0_1] 25 (0, 0)) := ⟨bkn BKn⟩
    have n2_ : Bk ((w20.setCell ⟨gt, 0, none⟩ (.int .i64 (rd_T52 l0_1 x).f0)).setCell ⟨gt, 1, none⟩ (.int .i64 (rd_T52 l0_1 x).f1)) gt (.cells #[.int .i64 (rd_T52 l0_1 x).f0, .int .i64 (rd_T52 l0_1 x).f1] 52 (0, 0)) := ⟨by refine blk_put (cs := #[.int .i64 (rd_T52 l0_1 x).f0, .int .i64 0]) ?_ 1 _ rfl; refine blk_put (cs := #[.int .i64 0, .int .i64 0]) ?_ 0 _ rfl; exact BKt.out⟩
    have n3_ : Bk ((w20.setCell ⟨gt, 0, none⟩ (.int .i64 (rd_T52 l0_1 x).f0)).setCell ⟨gt, 1, none⟩ (.int .i64 (rd_T52 l0_1 x).f1)) gR (.cells (ints room) 111 (0, 0)) := ⟨bkn BKr⟩
    have n4_ : Aside0 (Below w.heap.size w ((w20.setCell ⟨gt, 0, none⟩ (.int .i64 (rd_T52 l0_1 x).f0)).setCell ⟨gt, 1, none⟩ (.int .i64 (rd_T52 l0_1 x).f1))) := ⟨bn HB⟩
    clear BKn BKr BKt HB hcz5_0 hcz5_1 hfz5_0 hfz5_1
    generalize ((w20.setCell ⟨gt, 0, none⟩ (.int .i64 (rd_T52 l0_1 x).f0)).setCell ⟨gt, 1, none⟩ (.int .i64 (rd_T52 l0_1 x).f1)) = w21 at n1_ n2_ n3_ n4_ ⊢
    have BKn := n1_
    have BKt := n2_
    have BKr := n3_
    have HB := n4_
    clear n1_ n2_ n3_ n4_
    refine st_ 14 (S := fun w' => w'.cell? ⟨gt, 0, none⟩ = some (.int .i64 (rd_T52 l0_1 x).f0) ∧ w'.cell? ⟨gt, 1, none⟩ = some (.int .i64 (rd_T52 l0_1 x).f1)) (ds := [13]) ⟨(bc BKt 0), (bc BKt 1)⟩ (fun hHeld => ?_); refine with_tabW impl_Net_flow.tab5 impl_Net_flow.bits5 (fun HT_ HW_ => ?_)
    replace BKn := bm (blk_drew BKn.out)
    replace BKt := bm (blk_drew BKt.out)
    replace BKr := bm (blk_drew BKr.out)
    replace HB := am (below_drew1 HB.out)
    generalize w21.drew = w22 at BKn BKt BKr HB hHeld ⊢
    refine pz_ 0 HT_ ?_
    refine pz_ 2 HT_ ?_
    refine pz_ 4 HT_ ?_
    refine pz_ 6 HT_ ?_
    refine tz_ 1 HT_ HW_ hHeld ?_
    refine tz_ 3 HT_ HW_ hHeld ?_
    refine tz_ 5 HT_ HW_ hHeld ?_
    refine tz_ 7 HT_ HW_ hHeld ?_
    refine pz_ 8 HT_ ?_
    refine pz_ 9 HT_ ?_
    refine pz_ 11 HT_ ?_
    have hl1 : (rd_T52 l0_1 x).f0.toNat * 8 + (rd_T52 l0_1 x).f1.toNat < room.length := by rw [HL.out]; omega
    have hl2 : (rd_T52 l0_1 x).f1.toNat * 8 + (rd_T52 l0_1 x).f0.toNat < (room.set ((rd_T52 l0_1 x).f0.toNat * 8 + (rd_T52 l0_1 x).f1.toNat) 1).length := by rw [List.length_set, HL.out]; omega
    have hx2 := arr_cell BKr _ hl1
    have hf2 := blk_frozen BKr.out ((rd_T52 l0_1 x).f0.toNat * 8 + (rd_T52 l0_1 x).f1.toNat)
    have BKr2 := arr_put BKr ((rd_T52 l0_1 x).f0.toNat * 8 + (rd_T52 l0_1 x).f1.toNat) 1
    have hx3 := arr_cell BKr2 _ hl2
    have hf3 := blk_frozen BKr2.out ((rd_T52 l0_1 x).f1.toNat * 8 + (rd_T52 l0_1 x).f0.toNat)
    have BKr3 := arr_put BKr2 ((rd_T52 l0_1 x).f1.toNat * 8 + (rd_T52 l0_1 x).f0.toNat) 1
    refine on_ 10 HT_ (fun K hK => ?_)
    refine skip_ (w1 := ?_) (by rfl) rfl ?_ ?_
    rotate_left
    ·go_simp
     rfl
    refine hK.out _ _ ⟨(cell_far (p := ⟨gR, _, none⟩) NBt_r.out _).trans hHeld.1, (cell_far (p := ⟨gR, _, none⟩) NBt_r.out _).trans hHeld.2⟩ (fun hHeld => ?_)
    clear hK K
    refine pz_ 12 HT_ ?_
    refine last_ (i := 13) (N := none) #[true, true, true, true, true, true, true, true, true, true, true, true, true, true] rfl rfl (one_of HT_.out (by kernel_rfl)) (by decide) (fun K hK => ?_)
    refine skip_ (w1 := ?_) (by rfl) rfl ?_ ?_
    rotate_left
    ·go_simp
     rfl
    refine hK.out _ _ ?_
    clear hK K
    refine done_ (done_of HT_.out (by kernel_rfl)) ?_
    go_wp2
    go_roundg k1
    case measure => have := HK1.out; omega
    case rel => exact ⟨wrap64 (x + 1), _, (by first | rfl | (simp; done) | (simp [*]; done)), H', ⟨by have := HK1.out; omega⟩, ⟨by rw [List.length_set, List.length_set]; exact HL.out⟩, ⟨bkn BKn⟩, ⟨BKr3.out⟩, ⟨bn HB⟩⟩
   ·rw [if_neg c1] at H
    have c1b0 := decide_eq_false c1
    have H' := am H
    clear H
    go_wp2
    go_loopg [10] k1 (fun kq v10 w' => ∃ (many : Int) (room1 : List Int), v10 = .int .i64 many ∧ Aside0 (impl_Net_flow.l1 kq a0_0 a1 a2 room1 many = some r) ∧ Aside0 (kq ≤ k1) ∧ Aside0 (room1.length = 64) ∧ Bk w' gb1 (.cells #[.int .i64 a0_0, (.slice A0_1 l0_1.length c0_1)] 25 (0, 0)) ∧ Bk w' gR (.cells (ints room1) 111 (0, 0)) ∧ Aside0 (Below w.heap.size w w'))
    case atStart => exact ⟨0, room, (by first | rfl | (simp; done) | (simp [*]; done)), H', ⟨Nat.le_refl _⟩, HL, ⟨bkn BKn⟩, ⟨bkn BKr⟩, ⟨bn HB⟩⟩
    case round =>
     clear H'
     clear BKn BKr HB
     obtain ⟨many, room1, rfl, HA, HK2, HL1, BKn, BKr, HB⟩ := hrel
     cases gk with
     | zero => exact absurd HA.out (by simp [impl_Net_flow.l1])
     | succ k2 =>
      have H' := am (show impl_Net_flow.l2 k2 a0_0 a1 a2 room1 many (List.replicate 8 0) 0 = some r from by have h_ := HA.out; simp only [impl_Net_flow.l1] at h_; exact h_)
      clear HA
      go_wp2_with (first | ((with_reducible refine gate_dst (N := 40) rfl ?_); refine arr_new 40 11 110 (ints (List.replicate 8 0)) ?_ zero114 infoz114 infos114 (ints_one _); intro Z40 gF hg w30 hbox hb; have BKf := bm hbox; have GEf := am (ge_ hg HB); replace HB := bs HB hb; obtain ⟨NBn_f, NBf_n⟩ := nb_ hg BKn; obtain ⟨NBr_f, NBf_r⟩ := nb_ hg BKr; replace BKn := bb BKn hb; replace BKr := bb BKr hb; clear hb hbox hg))
      go_loopg [41] k2 (fun kq v41 w' => ∃ (j : Int) (fr : List Int), v41 = .int .i64 j ∧ Aside0 (impl_Net_flow.l2 kq a0_0 a1 a2 room1 many fr j = some r) ∧ Aside0 (kq ≤ k2) ∧ Aside0 (fr.length = 8) ∧ Bk w' gb1 (.cells #[.int .i64 a0_0, (.slice A0_1 l0_1.length c0_1)] 25 (0, 0)) ∧ Bk w' gR (.cells (ints room1) 111 (0, 0)) ∧ Bk w' gF (.cells (ints fr) 110 (0, 0)) ∧ Aside0 (Below w.heap.size w w'))
      case atStart => exact ⟨0, List.replicate 8 0, (by first | rfl | (simp; done) | (simp [*]; done)), H', ⟨Nat.le_refl _⟩, ⟨by simp⟩, ⟨bkn BKn⟩, ⟨bkn BKr⟩, ⟨bkn BKf⟩, ⟨bn HB⟩⟩
      case round =>
       clear H'
       clear BKn BKr BKf HB
       obtain ⟨j, fr, rfl, HA, HK3, HL2, BKn, BKr, BKf, HB⟩ := hrel
       cases gk with
       | zero => exact absurd HA.out (by simp [impl_Net_flow.l2])
       | succ k3 =>
        have H := HA.out
        clear HA
        simp only [impl_Net_flow.l2] at H
        by_cases c10 : j < 8
        ·rw [if_pos c10] at H
         have c10b0 := decide_eq_true c10
         replace H := ig_ H; obtain ⟨c11, H⟩ := H
         have H' := am H
         clear H
         have hx5 := arr_cell BKf j.toNat (by rw [HL2.out]; omega)
         have hf5 := blk_frozen BKf.out j.toNat
         have BKf2 := arr_put BKf j.toNat (-1)
         have p5 := eq_true c10
         have q5 := eq_true c11
         go_wp2
         go_roundg k3
         case measure => have := HK3.out; omega
         case rel => exact ⟨wrap64 (j + 1), _, (by rw [show wrap64 (j + 1) = j + 1 from by unfold wrap64; omega]), H', ⟨by have := HK3.out; omega⟩, ⟨by rw [List.length_set]; exact HL2.out⟩, ⟨bkn BKn⟩, ⟨bkn BKr⟩, ⟨BKf2.out⟩, ⟨bn HB⟩⟩
        ·rw [if_neg c10] at H
         have c10b0 := decide_eq_false c10
         replace H := ig_ H; obtain ⟨c12, H⟩ := H
         replace H := ig_ H; obtain ⟨c13, H⟩ := H
         have H' := am H
         clear H
         have hx6 := arr_cell BKf a1.toNat (by rw [HL2.out]; omega)
         have hf6 := blk_frozen BKf.out a1.toNat
         have BKf2 := arr_put BKf a1.toNat a1
         have p6 := eq_true c12
         have q6 := eq_true c13
         go_wp2_with (first | ((with_reducible refine gate_dst (N := 51) rfl ?_); refine Kd.R_lit (Kd.int .i64) _ 3 ?hg (N := 51) ?hd (xs := ([a1] : List Int)) (inner := [.int .i64 a1]) (ok := fun _ => True) (okp := fun _ => True) ?hr ?hp (fun _ hk => hk) trivial (Below.refl _ _) (Nat.le_refl _) (by simp) ?_; (case hd => rfl); (case hg => rfl); (case hr => first | (go_simp; done) | (go_simp; rfl)); (case hp => exact (Reps.one (show Kd.M (Kd.int .i64) _ _ _ a1 [.int .i64 a1] from rfl) (Reps.none _ _))); intro v51 w31 ho hb hg_ hnew_; clear hg_ hnew_; have HO := am (Kd.R_lower ho (below_size (bn HB))); replace BKn := bb BKn hb; replace BKr := bb BKr hb; replace BKf2 := bb BKf2 hb; replace HB := bs HB hb; clear hb ho hx6 hf6))
         go_loopg [13, 14] k3 (fun kq v13 v14 w' => ∃ (x : Int) (fr1 q : List Int), v14 = .int .i64 x ∧ Aside0 (impl_Net_flow.l3 kq a0_0 a1 a2 room1 many fr1 q x = some r) ∧ Aside0 (kq ≤ k3) ∧ Aside0 (fr1.length = 8) ∧ Aside0 (Kd.R (Kd.int .i64) 3 w' w.heap.size (fun _ => True) v13 q) ∧ Bk w' gb1 (.cells #[.int .i64 a0_0, (.slice A0_1 l0_1.length c0_1)] 25 (0, 0)) ∧ Bk w' gR (.cells (ints room1) 111 (0, 0)) ∧ Bk w' gF (.cells (ints fr1) 110 (0, 0)) ∧ Aside0 (Below w.heap.size w w'))
         case atStart => exact ⟨0, _, [a1], (by first | rfl | (simp; done) | (simp [*]; done)), H', ⟨Nat.le_refl _⟩, ⟨by rw [List.length_set]; exact HL2.out⟩, ⟨onR HO⟩, ⟨bkn BKn⟩, ⟨bkn BKr⟩, ⟨bkn BKf2⟩, ⟨bn HB⟩⟩
         case round =>
          clear H'
          clear BKn BKr BKf BKf2 HB HO
          obtain ⟨x1, fr1, q, rfl, HA, HK4, HL3, HO, BKn, BKr, BKf, HB⟩ := hrel
          obtain ⟨Ao1, co1, eo1⟩ := Kd.R_slice HO.out
          subst eo1
          cases gk with
          | zero => exact absurd HA.out (by simp [impl_Net_flow.l3])
          | succ k4 =>
           have H := HA.out
           clear HA
           simp only [impl_Net_flow.l3] at H
           obtain ⟨hcn0, hcn1, hfn0, hfn1⟩ := Go.Proofs.YtffflhmblelegaaW.PrintWords.c2 BKn
           by_cases c20 : x1 < (q.length : Int)
           ·rw [if_pos c20] at H
            have c20b0 := decide_eq_true c20
            have H' := am H
            clear H
            go_wp2
            clear hcn0 hcn1 hfn0 hfn1
            go_loopg [13, 60] k4 (fun kq v13 v60 w' => ∃ (v : Int) (fr2 q2 : List Int), v60 = .int .i64 v ∧ Aside0 (impl_Net_flow.l4 kq a0_0 a1 a2 room1 many fr2 q2 x1 v = some r) ∧ Aside0 (kq ≤ k4) ∧ Aside0 (fr2.length = 8) ∧ Aside0 (Kd.R (Kd.int .i64) 3 w' w.heap.size (fun _ => True) v13 q2) ∧ Bk w' gb1 (.cells #[.int .i64 a0_0, (.slice A0_1 l0_1.length c0_1)] 25 (0, 0)) ∧ Bk w' gR (.cells (ints room1) 111 (0, 0)) ∧ Bk w' gF (.cells (ints fr2) 110 (0, 0)) ∧ Aside0 (Below w.heap.size w w'))
            case atStart => exact ⟨0, fr1, q, (by first | rfl | (simp; done) | (simp [*]; done)), H', ⟨Nat.le_refl _⟩, HL3, ⟨onR HO⟩, ⟨bkn BKn⟩, ⟨bkn BKr⟩, ⟨bkn BKf⟩, ⟨bn HB⟩⟩
            case round =>
             clear H'
             clear BKn BKr BKf HB HO
             obtain ⟨v, fr2, q2, rfl, HA, HK5, HL4, HO, BKn, BKr, BKf, HB⟩ := hrel
             obtain ⟨Ao2, co2, eo2⟩ := Kd.R_slice HO.out
             subst eo2
             cases gk with
             | zero => exact absurd HA.out (by simp [impl_Net_flow.l4])
             | succ k5 =>
              have H := HA.out
              clear HA
              simp only [impl_Net_flow.l4] at H
              by_cases c30 : v < a0_0
              ·rw [if_pos c30] at H
               have c30b0 := decide_eq_true c30
               replace H := ig_ H; obtain ⟨c31, H⟩ := H
               replace H := ig_ H; obtain ⟨c32, H⟩ := H
               have hx7 := (show _ = some (Value.int .i64 (rd fr2 v)) from arr_cell BKf v.toNat (by rw [HL4.out]; omega))
               have hf7 := blk_frozen BKf.out v.toNat
               have p7 := eq_true c31
               have q7 := eq_true c32
               by_cases c33 : rd fr2 v < 0
               ·rw [if_pos c33] at H
                have c33b0 := decide_eq_true c33
                replace H := ig_ H; obtain ⟨c34, H⟩ := H
                replace H := ig_ H; obtain ⟨c35, H⟩ := H
                replace H := ig_ H; obtain ⟨c36, H⟩ := H
                replace H := ig_ H; obtain ⟨c37, H⟩ := H
                obtain ⟨adq, eq, hxq⟩ := Kd.at_int (Kd.R_reads' HO.out).2.2 x1 c34 c35
                cases eq
                have hx8 := (show _ = some (Value.int .i64 (room1.getD ((rd q2 x1).toNat * 8 + v.toNat) 0)) from arr_cell BKr ((rd q2 x1).toNat * 8 + v.toNat) (by rw [HL1.out]; omega))
                obtain ⟨rm, hrm⟩ : ∃ y, y = room1.getD ((rd q2 x1).toNat * 8 + v.toNat) 0 := ⟨_, rfl⟩
                rw [← hrm] at hx8
                rw [show room1.getD (at2 (rd q2 x1) v) 0 = rm from hrm.symm] at H
                clear hrm
                have p8 := eq_true c34
                have q8 := eq_true c35
                have p9 := eq_true c36
                have q9 := eq_true c37
                by_cases c38 : rm > 0
                ·rw [if_pos c38] at H
                 have c38b0 := decide_eq_true c38
                 have c38b1 : decide (0 < rm) = true := decide_eq_true c38
                 replace H := ig_ H; obtain ⟨c39, H⟩ := H
                 have H' := am H
                 clear H
                 have BKf2 := arr_put BKf v.toNat (rd q2 x1)
                 have HO2 : Aside0 (Kd.R (Kd.int .i64) 3 (wr.setCell ⟨gF, v.toNat, none⟩ (.int .i64 (rd q2 x1))) w.heap.size (fun _ => True) (.slice (some adq) q2.length co2) q2) := am (Kd.R_mono (Kd.R_far (p := ⟨gF, v.toNat, none⟩) (Kd.R_types HO.out BKf.out (by decide)) (fun _ hk => hk.2) (.int .i64 (rd q2 x1))) (fun _ hk => trivial))
                 go_upto_region 25 with (fail)
                 have n1_ : Bk (wr.setCell ⟨gF, v.toNat, none⟩ (.int .i64 (rd q2 x1))) gb1 (.cells #[.int .i64 a0_0, (.slice A0_1 l0_1.length c0_1)] 25 (0, 0)) := ⟨bkn BKn⟩
                 have n2_ : Bk (wr.setCell ⟨gF, v.toNat, none⟩ (.int .i64 (rd q2 x1))) gR (.cells (ints room1) 111 (0, 0)) := ⟨bkn BKr⟩
                 have n3_ : Aside0 (Below w.heap.size w (wr.setCell ⟨gF, v.toNat, none⟩ (.int .i64 (rd q2 x1)))) := ⟨bn HB⟩
                 clear BKn BKr HB
                 generalize (wr.setCell ⟨gF, v.toNat, none⟩ (.int .i64 (rd q2 x1))) = w39 at n1_ n2_ n3_ BKf2 HO2 ⊢
                 have BKn := n1_
                 have BKr := n2_
                 have HB := n3_
                 clear n1_ n2_ n3_
                 go_wp2_with (first | ((with_reducible refine gate_builtin (b := .append) (xs := #[.tmp 84, .tmp 86]) rfl ?_); at_builtin; refine Kd.R_append (Kd.int .i64) (w0 := w) w.heap.size rfl (.tmp 84) (.tmp 86) 30 3 (.int .i64 0) 8 rfl Try.underlying30 info3 rfl (by decide) (by omega) (.slice (some adq) q2.length co2) q2 v [.int .i64 v] (fun _ => True) (fun _ => False) rfl rfl ?aP (fun _ hk => hk.elim) ?aF ?aO ?aB ?aS ?aL ?_; (case aP => exact rfl); (case aB => exact (bn HB)); (case aF => exact (fun _ _ => trivial)); (case aO => exact (onR HO2)); (case aS => exact (below_size (bn HB))); (case aL => omega); intro v40 w40 ho hb hg hat; replace BKn := bm (blk_grown (bkn BKn) hg (Kd.R_ne HO2.out (bkn BKn) (by decide))); replace BKr := bm (blk_grown (bkn BKr) hg (Kd.R_ne HO2.out (bkn BKr) (by decide))); replace BKf2 := bm (blk_grown (bkn BKf2) hg (Kd.R_ne HO2.out (bkn BKf2) (by decide))); replace HB := am hb; have HO3 := am ho; clear HO2 HO; clear ho hb hg hat))
                 go_roundg k5
                 case measure => have := HK5.out; omega
                 case rel => exact ⟨wrap64 (v + 1), fr2.set v.toNat (rd q2 x1), q2 ++ [v], (by first | rfl | (rw [show wrap64 (v + 1) = v + 1 from by unfold wrap64; omega])), H', ⟨by have := HK5.out; omega⟩, ⟨by rw [List.length_set]; exact HL4.out⟩, ⟨onR HO3⟩, ⟨bkn BKn⟩, ⟨bkn BKr⟩, ⟨bkn BKf2⟩, ⟨bn HB⟩⟩
                ·rw [if_neg c38] at H
                 have c38b0 := decide_eq_false c38
                 have c38b1 : decide (0 < rm) = false := decide_eq_false c38
                 have H' := am H
                 clear H
                 go_wp2
                 go_roundg k5
                 case measure => have := HK5.out; omega
                 case rel => exact ⟨wrap64 (v + 1), fr2, q2, (by first | rfl | (rw [show wrap64 (v + 1) = v + 1 from by unfold wrap64; omega])), H', ⟨by have := HK5.out; omega⟩, HL4, ⟨onR HO⟩, ⟨bkn BKn⟩, ⟨bkn BKr⟩, ⟨bkn BKf⟩, ⟨bn HB⟩⟩
               ·rw [if_neg c33] at H
                have c33b0 := decide_eq_false c33
                have H' := am H
                clear H
                go_wp2
                go_roundg k5
                case measure => have := HK5.out; omega
                case rel => exact ⟨wrap64 (v + 1), fr2, q2, (by first | rfl | (rw [show wrap64 (v + 1) = v + 1 from by unfold wrap64; omega])), H', ⟨by have := HK5.out; omega⟩, HL4, ⟨onR HO⟩, ⟨bkn BKn⟩, ⟨bkn BKr⟩, ⟨bkn BKf⟩, ⟨bn HB⟩⟩
              ·rw [if_neg c30] at H
               have c30b0 := decide_eq_false c30
               have H' := am H
               clear H
               go_wp2
               go_roundg k5
               case measure => have := HK5.out; omega
               case rel => exact ⟨wrap64 (x1 + 1), fr2, q2, (by first | rfl | (simp; done) | (simp [*]; done)), H', ⟨by have := HK4.out; have := HK5.out; omega⟩, HL4, ⟨onR HO⟩, ⟨bkn BKn⟩, ⟨bkn BKr⟩, ⟨bkn BKf⟩, ⟨bn HB⟩⟩
           ·rw [if_neg c20] at H
            have c20b0 := decide_eq_false c20
            replace H := ig_ H; obtain ⟨c21, H⟩ := H
            replace H := ig_ H; obtain ⟨c22, H⟩ := H
            have hx10 := (show _ = some (Value.int .i64 (rd fr1 a2)) from arr_cell BKf a2.toNat (by rw [HL3.out]; omega))
            have p10 := eq_true c21
            have q10 := eq_true c22
            by_cases c23 : rd fr1 a2 < 0
            ·rw [if_pos c23] at H
             have c23b0 := decide_eq_true c23
             obtain rfl := Option.some.inj H
             go_wp2
             go_ret
             exact ⟨rfl, bn HB⟩
            ·rw [if_neg c23] at H
             have c23b0 := decide_eq_false c23
             have H' := am H
             clear H
             go_wp2
             clear hx10 hcn0 hcn1 hfn0 hfn1
             go_loopg [16] k4 (fun kq v16 w' => ∃ (v : Int) (room2 : List Int), v16 = .int .i64 v ∧ Aside0 (impl_Net_flow.l5 kq a0_0 a1 a2 room2 many fr1 v = some r) ∧ Aside0 (kq ≤ k4) ∧ Aside0 (room2.length = 64) ∧ Bk w' gb1 (.cells #[.int .i64 a0_0, (.slice A0_1 l0_1.length c0_1)] 25 (0, 0)) ∧ Bk w' gR (.cells (ints room2) 111 (0, 0)) ∧ Bk w' gF (.cells (ints fr1) 110 (0, 0)) ∧ Aside0 (Below w.heap.size w w'))
             case atStart => exact ⟨a2, room1, (by first | rfl | (simp; done) | (simp [*]; done)), H', ⟨Nat.le_refl _⟩, HL1, ⟨bkn BKn⟩, ⟨bkn BKr⟩, ⟨bkn BKf⟩, ⟨bn HB⟩⟩
             case round =>
              clear H'
              clear BKn BKr BKf HB HO
              obtain ⟨v, room2, rfl, HA, HK5, HL5, BKn, BKr, BKf, HB⟩ := hrel
              cases gk with
              | zero => exact absurd HA.out (by simp [impl_Net_flow.l5])
              | succ k5 =>
               have H := HA.out
               clear HA
               simp only [impl_Net_flow.l5] at H
               by_cases c40 : v = a1
               ·rw [if_pos c40] at H
                subst c40
                have H' := am H
                clear H
                go_wp2
                go_roundg k5
                case measure => have := HK5.out; have := HK4.out; have := HK3.out; omega
                case rel => exact ⟨wrap64 (many + 1), room2, (by first | rfl | (simp; done) | (simp [*]; done)), H', ⟨by have := HK5.out; have := HK4.out; have := HK3.out; have := HK2.out; omega⟩, HL5, ⟨bkn BKn⟩, ⟨bkn BKr⟩, ⟨bn HB⟩⟩
               ·rw [if_neg c40] at H
                have c40b0 := decide_eq_false c40
                have c40b1 : (v == a1) = false := by simpa using c40
                replace H := ig_ H; obtain ⟨c41, H⟩ := H
                replace H := ig_ H; obtain ⟨c42, H⟩ := H
                replace H := ig_ H; obtain ⟨c43, H⟩ := H
                replace H := ig_ H; obtain ⟨c44, H⟩ := H
                have H' := am H
                clear H
                have hF := fun (W : World) (B : Bk W gF (.cells (ints fr1) 110 (0, 0))) => (show W.cell? ⟨gF, v.toNat, none⟩ = some (.int .i64 (rd fr1 v)) from arr_cell B v.toNat (by rw [HL3.out]; omega))
                simp only [at2] at H'
                generalize rd fr1 v = rp at hF c43 c44 H'
                have HF := am hF
                clear hF
                have p11 := eq_true c41
                have q11 := eq_true c42
                have p12 := eq_true c43
                have q12 := eq_true c44
                go_upto_region 32 with (fail)
                have hxr := arr_cell BKr (rp.toNat * 8 + v.toNat) (by rw [HL5.out]; omega)
                generalize room2.getD (rp.toNat * 8 + v.toNat) 0 = rm1 at hxr H'
                refine st_ 11 (S := fun w' => w'.cell? ⟨gF, v.toNat, none⟩ = some (.int .i64 rp) ∧ w'.cell? ⟨gR, rp.toNat * 8 + v.toNat, none⟩ = some (.int .i64 (rm1))) (ds := [10]) ⟨HF.out _ (dB BKf), hxr⟩ (fun hHeld => ?_); refine with_tabW impl_Net_flow.tab32 impl_Net_flow.bits32 (fun HT_ HW_ => ?_)
                replace BKn := bm (blk_drew BKn.out)
                replace BKr := bm (blk_drew BKr.out)
                replace BKf := bm (blk_drew BKf.out)
                replace HB := am (below_drew1 HB.out)
                have hfr := blk_frozen BKr.out (rp.toNat * 8 + v.toNat)
                clear hxr
                generalize wr.drew = w42 at BKn BKr BKf HB hHeld hfr ⊢
                refine pz_ 0 HT_ ?_
                refine pz_ 3 HT_ ?_
                refine pz_ 1 HT_ ?_
                refine tz_ 2 HT_ HW_ hHeld ?_
                refine pz_ 4 HT_ ?_
                refine pz_ 5 HT_ ?_
                refine tz_ 6 HT_ HW_ hHeld ?_
                refine pz_ 7 HT_ ?_
                refine pz_ 8 HT_ ?_
                refine pz_ 9 HT_ ?_
                have hxr := hHeld.2
                refine last_ (i := 10) (N := none) #[true, true, true, true, true, true, true, true, true, true, true] rfl rfl (one_of HT_.out (by kernel_rfl)) (by decide) (fun K hK => ?_)
                refine skip_ (w1 := ?_) (by rfl) rfl ?_ ?_
                rotate_left
                ·go_simp
                 rfl
                refine hK.out _ _ ?_
                clear hK K
                refine done_ (done_of HT_.out (by kernel_rfl)) ?_
                clear HT_ HW_ hHeld hxr hfr
                have n1_ : Bk (w42.setCell ⟨gR, rp.toNat * 8 + v.toNat, none⟩ (.int .i64 (wrap64 (rm1 - 1)))) gb1 (.cells #[.int .i64 a0_0, (.slice A0_1 l0_1.length c0_1)] 25 (0, 0)) := ⟨bkn BKn⟩
                have n2_ : Bk (w42.setCell ⟨gR, rp.toNat * 8 + v.toNat, none⟩ (.int .i64 (wrap64 (rm1 - 1)))) gF (.cells (ints fr1) 110 (0, 0)) := ⟨bkn BKf⟩
                have n3_ : Aside0 (Below w.heap.size w (w42.setCell ⟨gR, rp.toNat * 8 + v.toNat, none⟩ (.int .i64 (wrap64 (rm1 - 1))))) := ⟨bn HB⟩
                have n4_ := arr_put BKr (rp.toNat * 8 + v.toNat) (wrap64 (rm1 - 1))
                clear BKn BKr BKf HB
                generalize (w42.setCell ⟨gR, rp.toNat * 8 + v.toNat, none⟩ (.int .i64 (wrap64 (rm1 - 1)))) = w43 at n1_ n2_ n3_ n4_ ⊢
                have BKn := n1_
                have BKf := n2_
                have HB := n3_
                have BKr := n4_
                clear n1_ n2_ n3_ n4_
                have HL6 : Aside0 ((room2.set (rp.toNat * 8 + v.toNat) (wrap64 (rm1 - 1))).length = 64) := ⟨by rw [List.length_set]; exact HL5.out⟩
                generalize room2.set (rp.toNat * 8 + v.toNat) (wrap64 (rm1 - 1)) = room3 at BKr H' HL6
                go_upto_region 33 with (fail)
                have hxr := arr_cell BKr (v.toNat * 8 + rp.toNat) (by rw [HL6.out]; omega)
                generalize room3.getD (v.toNat * 8 + rp.toNat) 0 = rm2 at hxr H'
                refine st_ 11 (S := fun w' => w'.cell? ⟨gF, v.toNat, none⟩ = some (.int .i64 rp) ∧ w'.cell? ⟨gR, v.toNat * 8 + rp.toNat, none⟩ = some (.int .i64 (rm2))) (ds := [10]) ⟨HF.out _ (dB BKf), hxr⟩ (fun hHeld => ?_); refine with_tabW impl_Net_flow.tab33 impl_Net_flow.bits33 (fun HT_ HW_ => ?_)
                replace BKn := bm (blk_drew BKn.out)
                replace BKr := bm (blk_drew BKr.out)
                replace BKf := bm (blk_drew BKf.out)
                replace HB := am (below_drew1 HB.out)
                have hfr := blk_frozen BKr.out (v.toNat * 8 + rp.toNat)
                clear hxr
                generalize w43.drew = w44 at BKn BKr BKf HB hHeld hfr ⊢
                refine pz_ 0 HT_ ?_
                refine pz_ 1 HT_ ?_
                refine pz_ 2 HT_ ?_
                refine tz_ 3 HT_ HW_ hHeld ?_
                refine pz_ 4 HT_ ?_
                refine pz_ 5 HT_ ?_
                refine tz_ 6 HT_ HW_ hHeld ?_
                refine pz_ 7 HT_ ?_
                refine pz_ 8 HT_ ?_
                refine pz_ 9 HT_ ?_
                have hxr := hHeld.2
                refine last_ (i := 10) (N := none) #[true, true, true, true, true, true, true, true, true, true, true] rfl rfl (one_of HT_.out (by kernel_rfl)) (by decide) (fun K hK => ?_)
                refine skip_ (w1 := ?_) (by rfl) rfl ?_ ?_
                rotate_left
                ·go_simp
                 rfl
                refine hK.out _ _ ?_
                clear hK K
                refine done_ (done_of HT_.out (by kernel_rfl)) ?_
                clear HT_ HW_ hHeld hxr hfr
                have n1_ : Bk (w44.setCell ⟨gR, v.toNat * 8 + rp.toNat, none⟩ (.int .i64 (wrap64 (rm2 + 1)))) gb1 (.cells #[.int .i64 a0_0, (.slice A0_1 l0_1.length c0_1)] 25 (0, 0)) := ⟨bkn BKn⟩
                have n2_ : Bk (w44.setCell ⟨gR, v.toNat * 8 + rp.toNat, none⟩ (.int .i64 (wrap64 (rm2 + 1)))) gF (.cells (ints fr1) 110 (0, 0)) := ⟨bkn BKf⟩
                have n3_ : Aside0 (Below w.heap.size w (w44.setCell ⟨gR, v.toNat * 8 + rp.toNat, none⟩ (.int .i64 (wrap64 (rm2 + 1))))) := ⟨bn HB⟩
                have n4_ := arr_put BKr (v.toNat * 8 + rp.toNat) (wrap64 (rm2 + 1))
                clear BKn BKr BKf HB
                generalize (w44.setCell ⟨gR, v.toNat * 8 + rp.toNat, none⟩ (.int .i64 (wrap64 (rm2 + 1)))) = w45 at n1_ n2_ n3_ n4_ ⊢
                have BKn := n1_
                have BKf := n2_
                have HB := n3_
                have BKr := n4_
                clear n1_ n2_ n3_ n4_
                have hx12 := HF.out _ BKf
                go_wp2
                go_roundg k5
                case measure => have := HK5.out; omega
                case rel => exact ⟨rp, _, (by first | rfl | (simp; done) | (simp [*]; done)), H', ⟨by have := HK5.out; omega⟩, ⟨by rw [List.length_set]; exact HL6.out⟩, ⟨bkn BKn⟩, ⟨BKr.out⟩, ⟨bkn BKf⟩, ⟨bn HB⟩⟩
end Go.Proofs.Ytffflhmblelegaa.F
