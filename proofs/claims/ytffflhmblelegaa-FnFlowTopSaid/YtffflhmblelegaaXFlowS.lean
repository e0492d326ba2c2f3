/-
The walk through the reference's FlowCount: how much goes from each knot to each, in rows of numbers behind a pointer; what it answers is the plain function's answer.
-/
import Derived.Test.YtffflhmblelegaaXFlowI
import Derived.Test.YtffflhmblelegaaF4
namespace Go.Proofs.Ytffflhmblelegaa.F
open Go.RowKit Go.Proofs.YtffflhmblelegaaW.PrintWords Go.Proofs.YtffflhmblelegaaW.PrintLast Go.Proofs.YtffflhmblelegaaW.PrintMore
attribute [local go_sem] max2_int min2_int max_two min_two max_three min_three max_four min_four
set_option linter.unusedVariables false
set_option linter.unusedSimpArgs false
theorem infoRow_ : (Try.prog.info? 30).map (fun i => (i.zero, i.size, i.bytes)) = some (some (.slice none 0 0), 1, 24) := by kernel_rfl
theorem blkNe {w : World} {g g' : Nat} {t t' : TypeId} {cs cs' : Array Value} (h : w.heap[g]? = some (.cells cs t (0, 0))) (h' : w.heap[g']? = some (.cells cs' t' (0, 0))) (hne : t ≠ t') : g ≠ g' := by
  rintro rfl
  rw [h] at h'
  injection h' with h'
  injection h' with _ ht
  exact hne ht
/-- A block of numbers (more may stand behind them). -/
def Blk (W : World) (g : Nat) (xs : List Int) : Prop := ∃ C, W.heap[g]? = some (.cells C 3 (0, 0)) ∧ ∀ i, i < xs.length → C[i]? = some (.int .i64 (xs.getD i 0))
theorem Blk.lt {W : World} {g : Nat} {xs : List Int} (h : Blk W g xs) : g < W.heap.size := by obtain ⟨_, h, _⟩ := h; exact blk_lt h
theorem Blk.cell {W : World} {g : Nat} {xs : List Int} (h : Blk W g xs) (i : Nat) (hi : i < xs.length) : W.cell? ⟨g, i, none⟩ = some (.int .i64 (xs.getD i 0)) := by
  obtain ⟨C, h, hc⟩ := h
  exact (blk_cell h i).trans (hc i hi)
theorem Blk.frozen {W : World} {g : Nat} {xs : List Int} (h : Blk W g xs) (i : Nat) : W.frozen? ⟨g, i, none⟩ = false := by obtain ⟨C, h, _⟩ := h; exact blk_frozen h i
theorem Blk.put {W : World} {g : Nat} {xs : List Int} (h : Blk W g xs) (i : Nat) (v : Int) : Blk (W.setCell ⟨g, i, none⟩ (.int .i64 v)) g (xs.set i v) := by
  obtain ⟨C, h, hc⟩ := h
  refine ⟨_, blk_set h i _, fun j hj => ?_⟩
  rw [List.length_set] at hj
  have hcj := hc j hj
  have hlt : j < C.size := (Array.getElem?_eq_some_iff.1 hcj).1
  by_cases e : i = j
  · subst e
    rw [Array.getElem?_setIfInBounds_self_of_lt hlt]
    simp [List.getD_eq_getElem?_getD, hj]
  · rw [Array.getElem?_setIfInBounds_ne e, hcj]
    simp [List.getD_eq_getElem?_getD, e]
theorem Blk.far {W : World} {g g' : Nat} {xs : List Int} (h : Blk W g xs) (hg : g ≠ g') (j : Nat) (u : Value) : Blk (W.setCell ⟨g', j, none⟩ u) g xs := by
  obtain ⟨C, h, hc⟩ := h
  exact ⟨C, blk_far h (p := ⟨g', j, none⟩) hg u, hc⟩
theorem Blk.grown {W W1 : World} {g : Nat} {xs : List Int} (h : Blk W g xs) {row : Option Nat} (hg : W.grownBy W1 row) (hne : some g ≠ row) : Blk W1 g xs := by
  obtain ⟨C, h, hc⟩ := h
  exact ⟨C, blk_grown h hg hne, hc⟩
theorem Blk.below {W W1 : World} {g : Nat} {xs : List Int} (h : Blk W g xs) (hb : Below W.heap.size W W1) : Blk W1 g xs := by
  obtain ⟨C, h, hc⟩ := h
  exact ⟨C, blk_below h hb, hc⟩
/-- A row of the call's own as a block. -/
theorem Blk.ofR {W : World} {base : Nat} {ok : Nat → Prop} {v : Value} {xs : List Int} (h : Kd.R (Kd.int .i64) 3 W base ok v xs) (hp : 0 < xs.length) : ∃ g cap, v = .slice (some ⟨g, 0, none⟩) xs.length cap ∧ base ≤ g ∧ Blk W g xs ∧ ok g := by
  obtain ⟨g, cap, e, hb, _, C, hC⟩ := Kd.R_form h hp
  have ho : ok g := h.1 g (by rw [e]; rfl)
  subst e
  refine ⟨g, cap, rfl, hb, ⟨C, hC, fun i hi => ?_⟩, ho⟩
  have := (Kd.R_celln 0 h i (by omega) (by omega)).1
  rw [show ((i : Int)).toNat = i by omega, blk_cell hC i] at this
  rw [this]
  simp [rdOf, List.getD_eq_getElem?_getD]
instance bIa {W : World} {g : Nat} {xs : List Int} [h : Aside0 (Blk W g xs)] (o : Obj) : Aside0 (Blk (W.alloc o) g xs) := ⟨by obtain ⟨C, h, hc⟩ := h.out; exact ⟨C, blk_alloc h o, hc⟩⟩
instance bIn {W : World} {g : Nat} {xs : List Int} [h : Aside0 (Blk W g xs)] (n : Nat) : Aside0 (Blk (W.drewN n) g xs) := ⟨h.out⟩
instance bId {W : World} {g : Nat} {xs : List Int} [h : Aside0 (Blk W g xs)] : Aside0 (Blk W.drew g xs) := ⟨h.out⟩
theorem fn {W W0 : World} {g : Nat} {xs : List Int} (_ : Aside0 (Blk W0 g xs)) [h : Aside0 (Blk W g xs)] : Blk W g xs := h.out
/-- Such blocks, one for each row. -/
def Inner (W : World) (bl : List Nat) (go : List (List Int)) : Prop := bl.length = go.length ∧ ∀ i, i < bl.length → Blk W (bl.getD i 0) (go.getD i [])
theorem Inner.mem {W : World} {bl : List Nat} {go : List (List Int)} (h : Inner W bl go) {g : Nat} (hg : g ∈ bl) : g < W.heap.size := by
  obtain ⟨i, hi, e⟩ := List.mem_iff_getElem.1 hg
  have := (h.2 i hi).lt
  simpa [List.getD_eq_getElem?_getD, hi, e] using this
theorem getD_mem {bl : List Nat} {i : Nat} (hi : i < bl.length) : bl.getD i 0 ∈ bl := by
  simp [List.getD_eq_getElem?_getD, hi]
theorem Inner.move {W W1 : World} {bl : List Nat} {go : List (List Int)} (h : Inner W bl go) (k : ∀ g ∈ bl, ∀ xs, Blk W g xs → Blk W1 g xs) : Inner W1 bl go := ⟨h.1, fun i hi => k _ (getD_mem hi) _ (h.2 i hi)⟩
instance nIa {W : World} {bl : List Nat} {go : List (List Int)} [h : Aside0 (Inner W bl go)] (o : Obj) : Aside0 (Inner (W.alloc o) bl go) := ⟨h.out.move fun g _ xs hb => by obtain ⟨C, h, hc⟩ := hb; exact ⟨C, blk_alloc h o, hc⟩⟩
instance nIn {W : World} {bl : List Nat} {go : List (List Int)} [h : Aside0 (Inner W bl go)] (n : Nat) : Aside0 (Inner (W.drewN n) bl go) := ⟨h.out⟩
instance nId {W : World} {bl : List Nat} {go : List (List Int)} [h : Aside0 (Inner W bl go)] : Aside0 (Inner W.drew bl go) := ⟨h.out⟩
theorem nn {W W0 : World} {bl : List Nat} {go : List (List Int)} (_ : Aside0 (Inner W0 bl go)) [h : Aside0 (Inner W bl go)] : Inner W bl go := h.out
theorem Inner.far {W : World} {bl : List Nat} {go : List (List Int)} (h : Inner W bl go) {g : Nat} (hg : g ∉ bl) (j : Nat) (u : Value) : Inner (W.setCell ⟨g, j, none⟩ u) bl go := h.move fun g' hg' _ hb => hb.far (fun (e : g' = g) => hg (e ▸ hg')) j u
theorem Inner.below {W W1 : World} {bl : List Nat} {go : List (List Int)} (h : Inner W bl go) (hb : Below W.heap.size W W1) : Inner W1 bl go := h.move fun _ _ _ hk => hk.below hb
theorem Inner.grown {W W1 : World} {bl : List Nat} {go : List (List Int)} (h : Inner W bl go) {row : Option Nat} (hg : W.grownBy W1 row) (hne : ∀ g ∈ bl, some g ≠ row) : Inner W1 bl go := h.move fun g hm _ hk => hk.grown hg (hne g hm)
theorem getD_inj {bl : List Nat} (hn : bl.Nodup) {i j : Nat} (hi : i < bl.length) (hj : j < bl.length) (e : bl.getD i 0 = bl.getD j 0) : i = j := by
  simp only [List.getD_eq_getElem?_getD, List.getElem?_eq_getElem hi, List.getElem?_eq_getElem hj, Option.getD_some] at e
  rcases Nat.lt_trichotomy i j with k | k | k
  · exact absurd e (List.pairwise_iff_getElem.1 hn i j hi hj k)
  · exact k
  · exact absurd e.symm (List.pairwise_iff_getElem.1 hn j i hj hi k)
def upd (go : List (List Int)) (i j : Nat) (v : Int) : List (List Int) := go.set i ((go.getD i []).set j v)
theorem Inner.put {W : World} {bl : List Nat} {go : List (List Int)} (h : Inner W bl go) (hn : bl.Nodup) {i : Nat} (hi : i < bl.length) (j : Nat) (v : Int) : Inner (W.setCell ⟨bl.getD i 0, j, none⟩ (.int .i64 v)) bl (upd go i j v) := by
  refine ⟨by rw [upd, List.length_set]; exact h.1, fun m hm => ?_⟩
  have hmg : m < go.length := by rw [← h.1]; exact hm
  by_cases e : i = m
  · subst e
    have e2 : (upd go i j v).getD i [] = (go.getD i []).set j v := by simp [upd, List.getD_eq_getElem?_getD, hmg]
    rw [e2]
    exact (h.2 i hi).put j v
  · have e2 : (upd go i j v).getD m [] = go.getD m [] := by simp [upd, List.getD_eq_getElem?_getD, e]
    rw [e2]
    exact (h.2 m hm).far (fun k => e (getD_inj hn hm hi k).symm) j _
def g2 (go : List (List Int)) (i j : Int) : Int := (go.getD i.toNat []).getD j.toNat 0
mutual
/-- None is come to. -/
def spec_more.l0 : Nat → Int → List (S52) → Int → Int → List (List Int) → List Int → Int → Option (Bool × List (List Int))
 | 0, _, _, _, _, _, _, _ => none
 | k + 1, n, E, a, b, go, fr, x => if x < n then (if fr.length < 1048576 then (spec_more.l0 k n E a b go (fr ++ [-1]) (wrap64 (x + 1))) else none) else (if 0 ≤ a then (if a < (fr.length : Int) then (spec_more.l1 k n E a b go (fr.set a.toNat a) ([a] : List Int)) else none) else none)
/-- The row's knots. -/
def spec_more.l1 : Nat → Int → List (S52) → Int → Int → List (List Int) → List Int → List Int → Option (Bool × List (List Int))
 | 0, _, _, _, _, _, _, _ => none
 | k + 1, n, E, a, b, go, fr, row => if 0 ≤ b then (if b < (fr.length : Int) then (if 0 < row.length then (if rd fr b < 0 then (spec_more.l2 k n E a b go fr (row.drop 1) (rd row 0) 0) else (spec_more.l3 k n E a b go fr b)) else (if rd fr b < 0 then (some (false, go)) else none)) else none) else none
/-- From one of them on. -/
def spec_more.l2 : Nat → Int → List (S52) → Int → Int → List (List Int) → List Int → List Int → Int → Int → Option (Bool × List (List Int))
 | 0, _, _, _, _, _, _, _, _, _ => none
 | k + 1, n, E, a, b, go, fr, row, at_, x => if x < n then (if 0 ≤ x then (if x < (fr.length : Int) then (if rd fr x < 0 then ((spec_l1Has.f k n E at_ x).bind fun t => (if t = true then (if 0 ≤ at_ then (if at_ < n then (if g2 go at_ x < 1 then (if row.length < 1048576 then (spec_more.l2 k n E a b go (fr.set x.toNat at_) (row ++ [x]) at_ (wrap64 (x + 1))) else none) else (spec_more.l2 k n E a b go fr row at_ (wrap64 (x + 1)))) else none) else none) else (spec_more.l2 k n E a b go fr row at_ (wrap64 (x + 1))))) else (spec_more.l2 k n E a b go fr row at_ (wrap64 (x + 1)))) else none) else none) else (spec_more.l1 k n E a b go fr row)
/-- The way back. -/
def spec_more.l3 : Nat → Int → List (S52) → Int → Int → List (List Int) → List Int → Int → Option (Bool × List (List Int))
 | 0, _, _, _, _, _, _, _ => none
 | k + 1, n, E, a, b, go, fr, v => if v = a then (some (true, go)) else (if 0 ≤ v then (if v < (fr.length : Int) then (if v < n then (if 0 ≤ rd fr v then (if rd fr v < n then ((fun go1 : List (List Int) => spec_more.l3 k n E a b (upd go1 v.toNat (rd fr v).toNat (wrap64 (g2 go1 v (rd fr v) - 1))) fr (rd fr v)) (upd go (rd fr v).toNat v.toNat (wrap64 (g2 go (rd fr v) v + 1)))) else none) else none) else none) else none) else none)
end
def spec_more.f (k : Nat) (n : Int) (E : List (S52)) (a b : Int) (go : List (List Int)) : Option (Bool × List (List Int)) := spec_more.l0 k n E a b go ([] : List Int) 0
/-- As many rows as rows' places. -/
def Sq (m : Nat) (go : List (List Int)) : Prop := ∀ i, i < m → (go.getD i []).length = m
theorem Sq.upd {m : Nat} {go : List (List Int)} (h : Sq m go) (i j : Nat) (v : Int) : Sq m (upd go i j v) := by
  intro x hx
  have := h x hx
  by_cases e : i = x
  · subst e
    by_cases hi : i < go.length
    · have e2 : (F.upd go i j v).getD i [] = (go.getD i []).set j v := by simp [F.upd, List.getD_eq_getElem?_getD, hi]
      rw [e2, List.length_set]; exact this
    · have e2 : F.upd go i j v = go := by unfold F.upd; exact List.set_eq_of_length_le (by omega)
      rw [e2]; exact this
  · have e2 : (F.upd go i j v).getD x [] = go.getD x [] := by simp [F.upd, List.getD_eq_getElem?_getD, e]
    rw [e2]; exact this
def spec_more.T22 : Bool × List (List Nat × List Nat) := (true, [([], []), ([0], [0]), ([1], [1]), ([2], [2]), ([], []), ([], []), ([4, 5], [4, 5]), ([6], [6]), ([3, 7], [3, 7]), ([8], [8]), ([], []), ([], []), ([11], [11]), ([12], [12]), ([13], [13]), ([], []), ([], []), ([15, 16], [15, 16]), ([17], [17]), ([14, 18], [14, 18]), ([19], [19]), ([], []), ([20, 21], [20, 21]), ([22], [22]), ([23], [23]), ([9, 10, 0, 1, 2, 3, 4, 5, 6, 7, 8, 9, 10, 11, 12, 13, 14, 15, 16, 17, 18, 19, 20, 21, 22, 23, 24], [9, 10]), ([25, 24, 0, 1, 2, 3, 4, 5, 6, 7, 8, 9, 10, 11, 12, 13, 14, 15, 16, 17, 18, 19, 20, 21, 22, 23, 24], [24, 25])])
def spec_more.B22 : List Nat := [0, 1, 3, 7, 0, 0, 48, 112, 255, 511, 0, 0, 2048, 6144, 14336, 0, 0, 98304, 229376, 522240, 1046528, 0, 4192256, 8386560, 16775168, 33554431, 67108863]
theorem spec_more.tab22 : rtab .any (opsOf Try.f98 22) = spec_more.T22 := by kernel_rfl
theorem spec_more.bits22 : waitsOk spec_more.T22.2 spec_more.B22 = true := by kernel_rfl
def spec_more.T23 : Bool × List (List Nat × List Nat) := (true, [([], []), ([0], [0]), ([1], [1]), ([2], [2]), ([], []), ([3, 4], [3, 4]), ([5], [5]), ([], []), ([], []), ([7, 8], [7, 8]), ([9], [9]), ([], []), ([11], [11]), ([12], [12]), ([13], [13]), ([], []), ([14, 15], [14, 15]), ([16], [16]), ([], []), ([], []), ([18, 19], [18, 19]), ([20], [20]), ([17, 21], [17, 21]), ([22], [22]), ([23], [23]), ([6, 10, 0, 1, 2, 3, 4, 5, 6, 7, 8, 9, 10, 11, 12, 13, 14, 15, 16, 17, 18, 19, 20, 21, 22, 23, 24], [6, 10]), ([25, 24, 0, 1, 2, 3, 4, 5, 6, 7, 8, 9, 10, 11, 12, 13, 14, 15, 16, 17, 18, 19, 20, 21, 22, 23, 24], [24, 25])])
def spec_more.B23 : List Nat := [0, 1, 3, 7, 0, 31, 63, 0, 0, 384, 896, 0, 2048, 6144, 14336, 0, 63488, 129024, 0, 0, 786432, 1835008, 4192256, 8386560, 16775168, 33554431, 67108863]
theorem spec_more.tab23 : rtab .any (opsOf Try.f98 23) = spec_more.T23 := by kernel_rfl
theorem spec_more.bits23 : waitsOk spec_more.T23.2 spec_more.B23 = true := by kernel_rfl
set_option maxHeartbeats 0 in
set_option maxRecDepth 100000 in
theorem spec_more.calls (k : Nat) (n : Int) (A : Option Addr) (c : Nat) (E : List (S52)) (a b : Int) (go : List (List Int)) (r : Bool) (go' : List (List Int)) (w0 w : World) (gs gG capG : Nat) (cG : Array Value) (bl : List Nat) (hr : Kd.C k52 w0 A E.length E) (hc : E.length ≤ c) (hB : Below w0.heap.size w0 w) (hs : w.heap[gs]? = some (.cells #[.int .i64 n, .slice A E.length c, .slice (some ⟨gG, 0, none⟩) bl.length capG] 114 (0, 0))) (hG : w.heap[gG]? = some (.cells cG 30 (0, 0))) (hcG : ∀ i, i < bl.length → ∃ c', cG[i]? = some (.slice (some ⟨bl.getD i 0, 0, none⟩) bl.length c')) (hI : Inner w bl go) (hq : Sq bl.length go) (hn : bl.Nodup) (hge : ∀ g ∈ bl, w0.heap.size ≤ g) (hl : n = (bl.length : Int)) (h : spec_more.f k n E a b go = some (r, go')) :
  Calls Try.prog 98 #[.pointer (some ⟨gs, 0, none⟩), .int .i64 a, .int .i64 b] w fun e w' => e = .returned (.bool r) ∧ w'.heap[gs]? = some (.cells #[.int .i64 n, .slice A E.length c, .slice (some ⟨gG, 0, none⟩) bl.length capG] 114 (0, 0)) ∧ w'.heap[gG]? = some (.cells cG 30 (0, 0)) ∧ (Inner w' bl go' ∧ Sq bl.length go') ∧ Below w0.heap.size w0 w' := by
 have hu34 := Try.underlying25
 have hu88 := Try.underlying114
 have HR := am hr
 have HC := am hc
 have BKs := bm hs
 have BKG := bm hG
 have HI := am hI
 have HQ := am hq
 have HB := am hB
 have HcG := am hcG
 have Hn := am hn
 have Hge := am hge
 have Hl := am hl
 clear hr hc hs hG hI hq hB hcG hn hge hl
 have H' := am (show spec_more.l0 k n E a b go ([] : List Int) 0 = some (r, go') from h)
 clear h
 go_enter Try.func98, Try.ntmps98
 have hfrs : w.heap.size ∉ bl := fun m => Nat.lt_irrefl _ ((nn HI).mem m)
 go_wp2_with (first | ((with_reducible refine gate_dst (N := 13) rfl ?_); refine Kd.R_lit (Kd.int .i64) _ 3 ?hg (N := 13) ?hd (xs := ([] : List Int)) (inner := []) (ok := fun k => k ∉ bl) (okp := fun _ => False) ?hr ?hp (fun _ hk => hk.elim) hfrs (Below.refl _ _) (Nat.le_refl _) (by simp) ?_; (case hd => rfl); (case hg => rfl); (case hr => first | (go_simp; done) | (go_simp; rfl)); (case hp => exact (Reps.none _ _)); intro v13 w2 ho hb hg_ hnew_; clear hg_ hnew_; have HF := am (Kd.R_lower ho (below_size (bn HB))); replace BKs := bb BKs hb; replace BKG := bb BKG hb; replace HI := am ((nn HI).below hb); replace HB := bs HB hb; clear hb ho))
 clear hfrs
 go_loopg [7, 8] k (fun kq v7 v8 w' => ∃ (x : Int) (fr : List Int), v8 = .int .i64 x ∧ Aside0 (spec_more.l0 kq n E a b go fr x = some (r, go')) ∧ Aside0 (kq ≤ k) ∧ Aside0 (Kd.R (Kd.int .i64) 3 w' w0.heap.size (fun k => k ∉ bl) v7 fr) ∧ Bk w' gs (.cells #[.int .i64 n, .slice A E.length c, .slice (some ⟨gG, 0, none⟩) bl.length capG] 114 (0, 0)) ∧ Bk w' gG (.cells cG 30 (0, 0)) ∧ Aside0 (Inner w' bl go) ∧ Aside0 (Below w0.heap.size w0 w'))
 case atStart => exact ⟨0, [], (by first | rfl | (simp; done) | (simp [*]; done)), H', ⟨Nat.le_refl _⟩, ⟨onR HF⟩, ⟨bkn BKs⟩, ⟨bkn BKG⟩, ⟨nn HI⟩, ⟨bn HB⟩⟩
 case round =>
  clear H'
  clear BKs BKG HI HB HF
  obtain ⟨x, fr, rfl, HA, HK1, HF, BKs, BKG, HI, HB⟩ := hrel
  obtain ⟨Af, cf, ef⟩ := Kd.R_slice HF.out
  subst ef
  cases gk with
  | zero => exact absurd HA.out (by simp [spec_more.l0])
  | succ k1 =>
   have H := HA.out
   clear HA
   simp only [spec_more.l0] at H
   have hcs0 := bc BKs 0
   have hcs2 := bc BKs 2
   by_cases c1 : x < n
   ·rw [if_pos c1] at H
    have c1b0 := decide_eq_true c1
    replace H := ig_ H; obtain ⟨c2, H⟩ := H
    have H' := am H
    clear H
    go_wp2_with (first | ((with_reducible refine gate_builtin (b := .append) (xs := #[.tmp 23, .tmp 24]) rfl ?_); at_builtin; refine Kd.R_append (Kd.int .i64) (w0 := w0) w0.heap.size rfl (.tmp 23) (.tmp 24) 30 3 (.int .i64 0) 8 rfl Try.underlying30 info3 rfl (by decide) (by omega) (.slice Af fr.length cf) fr (-1) [.int .i64 (-1)] (fun k => k ∉ bl) (fun _ => False) rfl rfl ?aP (fun _ hk => hk.elim) ?aF ?aO ?aB ?aS ?aL ?_; (case aP => exact rfl); (case aB => exact (bn HB)); (case aF => exact (fun k_ hk m => Nat.lt_irrefl _ (Nat.lt_of_lt_of_le ((nn HI).mem m) hk))); (case aO => exact (onR HF)); (case aS => exact (below_size (bn HB))); (case aL => omega); intro v3 w3 ho hb hg hat; replace BKs := bm (blk_grown (bkn BKs) hg (Kd.R_ne HF.out BKs.out (by decide))); replace BKG := bm (blk_grown (bkn BKG) hg (Kd.R_ne HF.out BKG.out (by decide))); replace HI := am ((nn HI).grown hg (fun g hm e => HF.out.1 g e.symm hm)); replace HB := am hb; have HF2 := am ho; clear HF; clear ho hb hg hat))
    go_roundg k1
    case measure => have := HK1.out; omega
    case rel => exact ⟨wrap64 (x + 1), fr ++ [-1], (by first | rfl | (simp; done) | (simp [*]; done)), H', ⟨by have := HK1.out; omega⟩, ⟨onR HF2⟩, ⟨bkn BKs⟩, ⟨bkn BKG⟩, ⟨nn HI⟩, ⟨bn HB⟩⟩
   ·rw [if_neg c1] at H
    have c1b0 := decide_eq_false c1
    replace H := ig_ H; obtain ⟨c3, H⟩ := H
    replace H := ig_ H; obtain ⟨c4, H⟩ := H
    have H' := am H
    clear H
    obtain ⟨gF, capF, ef, hgF, hBf, hokF⟩ := Blk.ofR HF.out (by omega)
    cases ef
    have BF := am hBf
    have GEF := am hgF
    have HokF := am hokF
    have NsF := am (show gs ≠ gF from by obtain ⟨C, hC, _⟩ := hBf; exact blkNe BKs.out hC (by decide))
    have NGF := am (show gG ≠ gF from by obtain ⟨C, hC, _⟩ := hBf; exact blkNe BKG.out hC (by decide))
    have NFs := am (Ne.symm NsF.out)
    have NFG := am (Ne.symm NGF.out)
    clear hgF hokF HF
    have HLf : Aside0 ((fr.set a.toNat a).length = fr.length) := ⟨by rw [List.length_set]⟩
    have BF2 := am (hBf.put a.toNat a)
    have hx1 := hBf.cell a.toNat (by omega)
    have hf1 := hBf.frozen a.toNat
    clear hBf
    have p1 := eq_true c3
    have q1 := eq_true c4
    generalize fr.length = lf at HLf hx1 q1 ⊢
    have HI2 := am (Inner.far HI.out HokF.out a.toNat (.int .i64 a))
    have hfr2 : ∀ W : World, Inner W bl go → Blk W gF (fr.set a.toNat a) → W.heap.size ∉ bl ∧ W.heap.size ≠ gF := fun W h1 h2 => ⟨fun m => Nat.lt_irrefl _ (h1.mem m), fun e => absurd h2.lt (by omega)⟩
    go_wp2_with (first | ((with_reducible refine gate_dst (N := 31) rfl ?_); refine Kd.R_lit (Kd.int .i64) _ 3 ?hg (N := 31) ?hd (xs := ([a] : List Int)) (inner := [.int .i64 a]) (ok := (fun k => k ∉ bl ∧ k ≠ gF)) (okp := fun _ => False) ?hr ?hp (fun _ hk => hk.elim) (hfr2 _ (nn HI2) (fn BF2)) (Below.refl _ _) (Nat.le_refl _) (by simp) ?_; (case hd => rfl); (case hg => rfl); (case hr => first | (go_simp; done) | (go_simp; rfl)); (case hp => exact (Reps.one (show Kd.M (Kd.int .i64) _ _ _ a [.int .i64 a] from rfl) (Reps.none _ _))); intro v31 w4 ho hb hg_ hnew_; clear hg_ hnew_; have HO := am (Kd.R_lower ho (below_size (bn HB))); replace BKs := bb BKs hb; replace BKG := bb BKG hb; replace HI2 := am ((nn HI2).below hb); replace BF2 := am ((fn BF2).below hb); replace HB := bs HB hb; clear hb ho hx1 hf1))
    go_loopg [9] k1 (fun kq v9 w' => ∃ (fr1 row : List Int), Aside0 (spec_more.l1 kq n E a b go fr1 row = some (r, go')) ∧ Aside0 (kq ≤ k1) ∧ Aside0 (fr1.length = lf) ∧ Aside0 (Kd.Q (Kd.int .i64) 3 w' w0.heap.size (fun k => k ∉ bl ∧ k ≠ gF) v9 row) ∧ Aside0 (Blk w' gF fr1) ∧ Bk w' gs (.cells #[.int .i64 n, .slice A E.length c, .slice (some ⟨gG, 0, none⟩) bl.length capG] 114 (0, 0)) ∧ Bk w' gG (.cells cG 30 (0, 0)) ∧ Aside0 (Inner w' bl go) ∧ Aside0 (Below w0.heap.size w0 w'))
    case atStart => exact ⟨_, [a], H', ⟨Nat.le_refl _⟩, HLf, ⟨Kd.Q_of_R (onR HO)⟩, ⟨fn BF2⟩, ⟨bkn BKs⟩, ⟨bkn BKG⟩, ⟨nn HI2⟩, ⟨bn HB⟩⟩
    case round =>
     clear H' HLf hfr2
     clear BKs BKG HI HI2 HB HO BF BF2
     obtain ⟨fr1, row, HA, HK2, HLf, HO, BF, BKs, BKG, HI, HB⟩ := hrel
     obtain ⟨Ar, cr, er, _⟩ := Kd.Q_slice HO.out
     subst er
     cases gk with
     | zero => exact absurd HA.out (by simp [spec_more.l1])
     | succ k2 =>
      have H := HA.out
      clear HA
      simp only [spec_more.l1, HLf.out] at H
      have hcs0 := bc BKs 0
      have hcs2 := bc BKs 2
      replace H := ig_ H; obtain ⟨c10, H⟩ := H
      replace H := ig_ H; obtain ⟨c11, H⟩ := H
      have hx2 := (show _ = some (Value.int .i64 (rd fr1 b)) from BF.out.cell b.toNat (by rw [HLf.out]; omega))
      have p2 := eq_true c10
      have q2 := eq_true c11
      by_cases c12 : 0 < row.length
      ·rw [if_pos c12] at H
       have c12b0 : decide (0 < row.length) = true := decide_eq_true c12
       have c12b1 : decide ((row.length : Int) > 0) = true := decide_eq_true (by omega)
       have c12b2 : decide ((0 : Int) < (row.length : Int)) = true := decide_eq_true (by omega)
       by_cases c13 : rd fr1 b < 0
       ·rw [if_pos c13] at H
        have c13b0 := decide_eq_true c13
        have H' := am H
        clear H
        obtain ⟨adq, eq, hxq⟩ := Kd.at_int (Kd.Q_reads' HO.out).2.2 0 (by omega) (by omega)
        cases eq
        have qi : (0 < row.length) = True := eq_true c12
        (try rw [show ((0 : Int)).toNat = 0 from rfl] at hxq)
        (try rw [Addr.add_zero'] at hxq)
        obtain ⟨row1, hrow1⟩ : ∃ y_ : List Int, y_ = row.drop (1 : Int).toNat := ⟨_, rfl⟩
        replace H' : Aside0 (spec_more.l2 k2 n E a b go fr1 row1 (rd row 0) 0 = some (r, go')) := am (by rw [hrow1]; exact H'.out)
        have q27 : (1 : Int) ≤ ((row.length : Int) : Int) := by omega
        obtain ⟨i027, hi027, _, hsz27, _⟩ := info_parts info3
        have hcut27 := cut_from (P := Try.prog) 30 3 .i64 Try.underlying30 hi027 1 hsz27 (some adq) row.length cr 1 (by omega) q27
        have hr27 := Kd.Q_drop (k := (1 : Int).toNat) HO.out (by omega)
        obtain ⟨A27, hA27⟩ : ∃ A1, A1 = (if cr = (1 : Int).toNat then (some adq) else ((some adq) : Option Addr).map (·.add ((1 : Int).toNat * 1))) := ⟨_, rfl⟩
        obtain ⟨c27, hc27⟩ : ∃ c1, c1 = cr - (1 : Int).toNat := ⟨_, rfl⟩
        have hy27 : row1.length = row.length - (1 : Int).toNat := (by rw [hrow1, List.length_drop])
        rw [← hrow1] at hr27
        rw [← hy27, ← hA27, ← hc27] at hcut27
        replace hr27 : Kd.Q (Kd.int .i64) 3 wr w0.heap.size (fun k => k ∉ bl ∧ k ≠ gF) (.slice A27 row1.length c27) row1 := (by rw [hA27, hc27, hy27]; exact hr27)
        clear hy27 hi027 hsz27 HO hA27 hc27 hrow1
        have HO := am hr27
        clear hr27
        generalize rd row 0 = at0 at hxq H' ⊢
        go_wp2
        clear hxq hcut27 hcs0 hcs2 hx2
        go_loopg [9, 11] k2 (fun kq v9 v11 w' => ∃ (x1 : Int) (fr2 row2 : List Int), v11 = .int .i64 x1 ∧ Aside0 (spec_more.l2 kq n E a b go fr2 row2 at0 x1 = some (r, go')) ∧ Aside0 (kq ≤ k2) ∧ Aside0 (fr2.length = lf) ∧ Aside0 (Kd.Q (Kd.int .i64) 3 w' w0.heap.size (fun k => k ∉ bl ∧ k ≠ gF) v9 row2) ∧ Aside0 (Blk w' gF fr2) ∧ Bk w' gs (.cells #[.int .i64 n, .slice A E.length c, .slice (some ⟨gG, 0, none⟩) bl.length capG] 114 (0, 0)) ∧ Bk w' gG (.cells cG 30 (0, 0)) ∧ Aside0 (Inner w' bl go) ∧ Aside0 (Below w0.heap.size w0 w'))
        case atStart => exact ⟨0, fr1, row1, (by first | rfl | (simp; done) | (simp [*]; done)), H', ⟨Nat.le_refl _⟩, HLf, ⟨onQ HO⟩, ⟨fn BF⟩, ⟨bkn BKs⟩, ⟨bkn BKG⟩, ⟨nn HI⟩, ⟨bn HB⟩⟩
        case round =>
         clear H' HLf
         clear BKs BKG HI HB HO BF
         obtain ⟨x1, fr2, row2, rfl, HA, HK3, HLf, HO, BF, BKs, BKG, HI, HB⟩ := hrel
         obtain ⟨Ar2, cr2, er2, _⟩ := Kd.Q_slice HO.out
         subst er2
         cases gk with
         | zero => exact absurd HA.out (by simp [spec_more.l2])
         | succ k3 =>
          have H := HA.out
          clear HA
          simp only [spec_more.l2, HLf.out] at H
          have hcs0 := bc BKs 0
          have hcs1 := bc BKs 1
          have hcs2 := bc BKs 2
          by_cases c20 : x1 < n
          ·rw [if_pos c20] at H
           have c20b0 := decide_eq_true c20
           replace H := ig_ H; obtain ⟨c21, H⟩ := H
           replace H := ig_ H; obtain ⟨c22, H⟩ := H
           have hx3 := (show _ = some (Value.int .i64 (rd fr2 x1)) from BF.out.cell x1.toNat (by rw [HLf.out]; omega))
           have p3 := eq_true c21
           have q3 := eq_true c22
           by_cases c23 : rd fr2 x1 < 0
           ·rw [if_pos c23] at H
            have c23b0 := decide_eq_true c23
            replace H := Option.bind_eq_some_iff.mp H
            obtain ⟨t, A0, H⟩ := H
            have A1 := am A0
            clear A0
            by_cases c24 : t = true
            ·subst c24
             rw [if_pos rfl] at H
             replace H := ig_ H; obtain ⟨c25, H⟩ := H
             replace H := ig_ H; obtain ⟨c26, H⟩ := H
             have hat : at0.toNat < bl.length := by have := Hl.out; omega
             have hxb : x1.toNat < bl.length := by have := Hl.out; omega
             have p4 := eq_true c25
             have q4 : (at0 < (bl.length : Int)) = True := eq_true (by have := Hl.out; omega)
             have q5 : (x1 < (bl.length : Int)) = True := eq_true (by have := Hl.out; omega)
             obtain ⟨cB, hcB⟩ := HcG.out at0.toNat hat
             obtain ⟨gv, hgv⟩ : ∃ y, y = g2 go at0 x1 := ⟨_, rfl⟩
             rw [← hgv] at H
             have hcell : ∀ W : World, Inner W bl go → W.cell? ⟨bl.getD at0.toNat 0, x1.toNat, none⟩ = some (.int .i64 gv) := fun W h => by rw [hgv]; exact (h.2 at0.toNat hat).cell x1.toNat (by rw [HQ.out at0.toNat hat]; exact hxb)
             have hcellG : ∀ W : World, W.heap[gG]? = some (.cells cG 30 (0, 0)) → W.cell? ⟨gG, at0.toNat, none⟩ = some (.slice (some ⟨bl.getD at0.toNat 0, 0, none⟩) bl.length cB) := fun W h => (blk_cell h _).trans hcB
             clear hgv hcB
             generalize bl.getD at0.toNat 0 = B1 at hcell hcellG
             have HcI := am hcell
             have HcGG := am hcellG
             clear hcell hcellG hat hxb
             by_cases c27 : gv < 1
             ·rw [if_pos c27] at H
              have c27b0 := decide_eq_true c27
              replace H := ig_ H; obtain ⟨c28, H⟩ := H
              have H' := am H
              clear H
              go_upto_region 16 with (first | (go_at_call 120; (with_reducible refine (spec_l1Has.calls k3 n _ _ E at0 x1 true _ ?side1 ?side2 A1.out).mono ?_); (case side1 => exact cb HR HB); (case side2 => exact HC.out); rintro e w12 ⟨rfl, hb⟩; replace BKs := bb BKs hb; replace BKG := bb BKG hb; replace HI := am ((nn HI).below hb); replace BF := am ((fn BF).below hb); replace HO := am (Kd.Q_below (onQ HO) hb); replace HB := bs HB hb; (try clear hb); (try clear hcs0 hcs1 hcs2 hx3); have hcs0 := bc BKs 0; have hcs1 := bc BKs 1; have hcs2 := bc BKs 2; have hx4 := (show _ = some (Value.int .i64 (rd fr2 x1)) from BF.out.cell x1.toNat (by rw [HLf.out]; omega)); have hf4 := BF.out.frozen x1.toNat; have hx5 := HcI.out _ HI.out; have hx6 := HcGG.out _ BKG.out))
              have n1_ : Bk (w12.setCell ⟨gF, x1.toNat, none⟩ (.int .i64 at0)) gs (.cells #[.int .i64 n, .slice A E.length c, .slice (some ⟨gG, 0, none⟩) bl.length capG] 114 (0, 0)) := ⟨bkn BKs⟩
              have n2_ : Bk (w12.setCell ⟨gF, x1.toNat, none⟩ (.int .i64 at0)) gG (.cells cG 30 (0, 0)) := ⟨bkn BKG⟩
              have n3_ : Aside0 (Inner (w12.setCell ⟨gF, x1.toNat, none⟩ (.int .i64 at0)) bl go) := ⟨Inner.far HI.out HokF.out _ _⟩
              have n4_ : Aside0 (Below w0.heap.size w0 (w12.setCell ⟨gF, x1.toNat, none⟩ (.int .i64 at0))) := ⟨bn HB⟩
              have n5_ := am (BF.out.put x1.toNat at0)
              have n6_ : Aside0 (Kd.Q (Kd.int .i64) 3 (w12.setCell ⟨gF, x1.toNat, none⟩ (.int .i64 at0)) w0.heap.size (fun k => k ∉ bl ∧ k ≠ gF) (.slice Ar2 row2.length cr2) row2) := am (Kd.Q_far (p := ⟨gF, x1.toNat, none⟩) HO.out (fun _ hk => hk.2) (.int .i64 at0))
              clear BKs BKG HI HB BF HO hcs0 hcs1 hcs2 hx4 hf4 hx5 hx6
              generalize (w12.setCell ⟨gF, x1.toNat, none⟩ (.int .i64 at0)) = w13 at n1_ n2_ n3_ n4_ n5_ n6_ ⊢
              have BKs := n1_
              have BKG := n2_
              have HI := n3_
              have HB := n4_
              have BF := n5_
              have HO := n6_
              clear n1_ n2_ n3_ n4_ n5_ n6_
              go_wp2_with (first | ((with_reducible refine gate_builtin (b := .append) (xs := #[.tmp 87, .tmp 89]) rfl ?_); at_builtin; refine Kd.Q_append (Kd.int .i64) (w0 := w0) w0.heap.size rfl (.tmp 87) (.tmp 89) 30 3 (.int .i64 0) 8 rfl Try.underlying30 info3 rfl (by decide) (by omega) (.slice Ar2 row2.length cr2) row2 x1 [.int .i64 x1] (fun k => k ∉ bl ∧ k ≠ gF) (fun _ => False) rfl rfl ?aP (fun _ hk => hk.elim) ?aF ?aO ?aB ?aS ?aL ?_; (case aP => exact rfl); (case aB => exact (bn HB)); (case aF => exact (fun k_ hk => ⟨fun m => Nat.lt_irrefl _ (Nat.lt_of_lt_of_le ((nn HI).mem m) hk), fun e => Nat.lt_irrefl _ (Nat.lt_of_lt_of_le ((fn BF).lt) (e ▸ hk))⟩)); (case aO => exact (onQ HO)); (case aS => exact (below_size (bn HB))); (case aL => omega); intro v14 w14 ho hb hg hat; replace BKs := bm (blk_grown (bkn BKs) hg (Kd.Q_ne HO.out BKs.out (by decide))); replace BKG := bm (blk_grown (bkn BKG) hg (Kd.Q_ne HO.out BKG.out (by decide))); replace HI := am ((nn HI).grown hg (fun g hm e => (HO.out.1 g e.symm).1 hm)); replace BF := am ((fn BF).grown hg (fun e => (HO.out.1 gF e.symm).2 rfl)); replace HB := am hb; have HO2 := am ho; clear HO; clear ho hb hg hat))
              go_roundg k3
              case measure => have := HK3.out; omega
              case rel => exact ⟨wrap64 (x1 + 1), _, row2 ++ [x1], (by first | rfl | (simp; done) | (simp [*]; done)), H', ⟨by have := HK3.out; omega⟩, ⟨by rw [List.length_set]; exact HLf.out⟩, ⟨onQ HO2⟩, ⟨fn BF⟩, ⟨bkn BKs⟩, ⟨bkn BKG⟩, ⟨nn HI⟩, ⟨bn HB⟩⟩
             ·rw [if_neg c27] at H
              have c27b0 := decide_eq_false c27
              have H' := am H
              clear H
              go_wp2_with (first | (go_at_call 120; (with_reducible refine (spec_l1Has.calls k3 n _ _ E at0 x1 true _ ?side1 ?side2 A1.out).mono ?_); (case side1 => exact cb HR HB); (case side2 => exact HC.out); rintro e w12 ⟨rfl, hb⟩; replace BKs := bb BKs hb; replace BKG := bb BKG hb; replace HI := am ((nn HI).below hb); replace BF := am ((fn BF).below hb); replace HO := am (Kd.Q_below (onQ HO) hb); replace HB := bs HB hb; (try clear hb); (try clear hcs0 hcs1 hcs2 hx3); have hcs0 := bc BKs 0; have hcs1 := bc BKs 1; have hcs2 := bc BKs 2; have hx4 := (show _ = some (Value.int .i64 (rd fr2 x1)) from BF.out.cell x1.toNat (by rw [HLf.out]; omega)); have hf4 := BF.out.frozen x1.toNat; have hx5 := HcI.out _ HI.out; have hx6 := HcGG.out _ BKG.out))
              go_roundg k3
              case measure => have := HK3.out; omega
              case rel => exact ⟨wrap64 (x1 + 1), fr2, row2, (by first | rfl | (simp; done) | (simp [*]; done)), H', ⟨by have := HK3.out; omega⟩, HLf, ⟨onQ HO⟩, ⟨fn BF⟩, ⟨bkn BKs⟩, ⟨bkn BKG⟩, ⟨nn HI⟩, ⟨bn HB⟩⟩
            ·replace c24 := Bool.eq_false_iff.mpr c24
             subst c24
             rw [if_neg (show ¬ (false = true) by decide)] at H
             have H' := am H
             clear H
             go_wp2_with (first | (go_at_call 120; (with_reducible refine (spec_l1Has.calls k3 n _ _ E at0 x1 false _ ?side1 ?side2 A1.out).mono ?_); (case side1 => exact cb HR HB); (case side2 => exact HC.out); rintro e w12 ⟨rfl, hb⟩; replace BKs := bb BKs hb; replace BKG := bb BKG hb; replace HI := am ((nn HI).below hb); replace BF := am ((fn BF).below hb); replace HO := am (Kd.Q_below (onQ HO) hb); replace HB := bs HB hb; (try clear hb); (try clear hcs0 hcs1 hcs2 hx3); have hcs0 := bc BKs 0; have hcs1 := bc BKs 1; have hcs2 := bc BKs 2; have hx4 := (show _ = some (Value.int .i64 (rd fr2 x1)) from BF.out.cell x1.toNat (by rw [HLf.out]; omega)); have hf4 := BF.out.frozen x1.toNat))
             go_roundg k3
             case measure => have := HK3.out; omega
             case rel => exact ⟨wrap64 (x1 + 1), fr2, row2, (by first | rfl | (simp; done) | (simp [*]; done)), H', ⟨by have := HK3.out; omega⟩, HLf, ⟨onQ HO⟩, ⟨fn BF⟩, ⟨bkn BKs⟩, ⟨bkn BKG⟩, ⟨nn HI⟩, ⟨bn HB⟩⟩
           ·rw [if_neg c23] at H
            have c23b0 := decide_eq_false c23
            have H' := am H
            clear H
            go_wp2
            go_roundg k3
            case measure => have := HK3.out; omega
            case rel => exact ⟨wrap64 (x1 + 1), fr2, row2, (by first | rfl | (simp; done) | (simp [*]; done)), H', ⟨by have := HK3.out; omega⟩, HLf, ⟨onQ HO⟩, ⟨fn BF⟩, ⟨bkn BKs⟩, ⟨bkn BKG⟩, ⟨nn HI⟩, ⟨bn HB⟩⟩
          ·rw [if_neg c20] at H
           have c20b0 := decide_eq_false c20
           have H' := am H
           clear H
           go_wp2
           go_roundg k3
           case measure => have := HK3.out; omega
           case rel => exact ⟨fr2, row2, H', ⟨by have := HK3.out; have := HK2.out; omega⟩, HLf, ⟨onQ HO⟩, ⟨fn BF⟩, ⟨bkn BKs⟩, ⟨bkn BKG⟩, ⟨nn HI⟩, ⟨bn HB⟩⟩
       ·rw [if_neg c13] at H
        have c13b0 := decide_eq_false c13
        have H' := am H
        clear H
        go_wp2
        clear hcs0 hcs2 hx2
        go_loopg [12] k2 (fun kq v12 w' => ∃ (v : Int) (go2 : List (List Int)), v12 = .int .i64 v ∧ Aside0 (spec_more.l3 kq n E a b go2 fr1 v = some (r, go')) ∧ Aside0 (kq ≤ k2) ∧ Aside0 (Sq bl.length go2) ∧ Aside0 (Blk w' gF fr1) ∧ Bk w' gs (.cells #[.int .i64 n, .slice A E.length c, .slice (some ⟨gG, 0, none⟩) bl.length capG] 114 (0, 0)) ∧ Bk w' gG (.cells cG 30 (0, 0)) ∧ Aside0 (Inner w' bl go2) ∧ Aside0 (Below w0.heap.size w0 w'))
        case atStart => exact ⟨b, go, (by first | rfl | (simp; done) | (simp [*]; done)), H', ⟨Nat.le_refl _⟩, HQ, ⟨fn BF⟩, ⟨bkn BKs⟩, ⟨bkn BKG⟩, ⟨nn HI⟩, ⟨bn HB⟩⟩
        case round =>
         clear H' HQ
         clear BKs BKG HI HB HO BF
         obtain ⟨v, go2, rfl, HA, HK3, HQ, BF, BKs, BKG, HI, HB⟩ := hrel
         cases gk with
         | zero => exact absurd HA.out (by simp [spec_more.l3])
         | succ k3 =>
          have H := HA.out
          clear HA
          simp only [spec_more.l3, HLf.out] at H
          by_cases c40 : v = a
          ·rw [if_pos c40] at H
           subst c40
           simp only [Option.some.injEq, Prod.mk.injEq] at H
           obtain ⟨rfl, rfl⟩ := H
           go_wp2
           go_ret
           exact ⟨rfl, bkn BKs, bkn BKG, ⟨nn HI, HQ.out⟩, bn HB⟩
          ·rw [if_neg c40] at H
           have c40b0 : (v == a) = false := beq_eq_false_iff_ne.mpr c40
           have c40b1 : (v != a) = true := bne_iff_ne.mpr c40
           replace H := ig_ H; obtain ⟨c41, H⟩ := H
           replace H := ig_ H; obtain ⟨c42, H⟩ := H
           replace H := ig_ H; obtain ⟨c43, H⟩ := H
           replace H := ig_ H; obtain ⟨c44, H⟩ := H
           replace H := ig_ H; obtain ⟨c45, H⟩ := H
           have H' := am H
           clear H
           have hpF : ∀ W : World, Blk W gF fr1 → W.cell? ⟨gF, v.toNat, none⟩ = some (.int .i64 (rd fr1 v)) := fun W h => h.cell v.toNat (by rw [HLf.out]; omega)
           generalize rd fr1 v = pp at hpF c44 c45 H'
           have HpF := am hpF
           clear hpF
           have p6 := eq_true c41
           have q6 := eq_true c42
           have q7 : (v < (bl.length : Int)) = True := eq_true (by have := Hl.out; omega)
           have p8 := eq_true c44
           have q8 : (pp < (bl.length : Int)) = True := eq_true (by have := Hl.out; omega)
           go_upto_region 22 with (fail)
           obtain ⟨cB1, hcB⟩ := HcG.out pp.toNat (by have := Hl.out; omega)
           have hm_ : bl.getD pp.toNat 0 ∈ bl := getD_mem (by have := Hl.out; omega)
           have hi_ : pp.toNat < bl.length := by have := Hl.out; omega
           have hj_ : v.toNat < bl.length := by have := Hl.out; omega
           have hcell : ∀ W : World, Inner W bl go2 → W.cell? ⟨bl.getD pp.toNat 0, v.toNat, none⟩ = some (.int .i64 (g2 go2 pp v)) := fun W h => (h.2 pp.toNat hi_).cell v.toNat (by rw [HQ.out pp.toNat hi_]; exact hj_)
           have hfz : ∀ W : World, Inner W bl go2 → W.frozen? ⟨bl.getD pp.toNat 0, v.toNat, none⟩ = false := fun W h => (h.2 pp.toNat hi_).frozen v.toNat
           have hput : ∀ (W : World) (u : Int), Inner W bl go2 → Inner (W.setCell ⟨bl.getD pp.toNat 0, v.toNat, none⟩ (.int .i64 u)) bl (upd go2 pp.toNat v.toNat u) := fun W u h => h.put Hn.out hi_ v.toNat u
           have hlt : ∀ W : World, Inner W bl go2 → ∃ C, W.heap[bl.getD pp.toNat 0]? = some (.cells C 3 (0, 0)) := fun W h => by obtain ⟨C, hC, _⟩ := h.2 pp.toNat hi_; exact ⟨C, hC⟩
           have hcellG : ∀ W : World, W.heap[gG]? = some (.cells cG 30 (0, 0)) → W.cell? ⟨gG, pp.toNat, none⟩ = some (.slice (some ⟨bl.getD pp.toNat 0, 0, none⟩) bl.length cB1) := fun W h => (blk_cell h _).trans hcB
           have hge_ := Hge.out _ hm_
           clear hcB hi_ hj_
           generalize bl.getD pp.toNat 0 = B1 at hm_ hcell hfz hput hcellG hge_ hlt
           generalize g2 go2 pp v = gv1 at hcell H'
           have HcI := am hcell
           have Hfz := am hfz
           have Hput := am hput
           have HcGG := am hcellG
           have GEB := am hge_
           have Hm := am hm_
           have NsB := am (show gs ≠ B1 from by obtain ⟨C, hC⟩ := hlt _ HI.out; exact blkNe BKs.out hC (by decide))
           have NGB := am (show gG ≠ B1 from by obtain ⟨C, hC⟩ := hlt _ HI.out; exact blkNe BKG.out hC (by decide))
           have NFB := am (show gF ≠ B1 from fun e => HokF.out (e ▸ hm_))
           clear hcell hfz hput hcellG hge_ hm_ hlt
           refine st_ 27 (S := fun w' => w'.cell? ⟨gs, 2, none⟩ = some (.slice (some ⟨gG, 0, none⟩) bl.length capG) ∧ w'.cell? ⟨gF, v.toNat, none⟩ = some (.int .i64 pp) ∧ w'.cell? ⟨gG, pp.toNat, none⟩ = some (.slice (some ⟨B1, 0, none⟩) bl.length cB1) ∧ w'.cell? ⟨B1, v.toNat, none⟩ = some (.int .i64 gv1)) (ds := [26]) ⟨bc BKs 2, HpF.out _ BF.out, HcGG.out _ BKG.out, HcI.out _ HI.out⟩ (fun hHeld => ?_); refine with_tabW spec_more.tab22 spec_more.bits22 (fun HT_ HW_ => ?_)
           replace BKs := bm (blk_drew BKs.out)
           replace BKG := bm (blk_drew BKG.out)
           replace BF : Aside0 (Blk wr.drew gF fr1) := ⟨BF.out⟩
           replace HI : Aside0 (Inner wr.drew bl go2) := ⟨HI.out⟩
           replace HB := am (below_drew1 HB.out)
           have hfr := Hfz.out _ HI.out
           generalize wr.drew = w22 at BKs BKG BF HI HB hHeld hfr ⊢
           refine pz_ 0 HT_ ?_
           refine pz_ 1 HT_ ?_
           refine pz_ 2 HT_ ?_
           refine tz_ 3 HT_ HW_ hHeld ?_
           refine pz_ 4 HT_ ?_
           refine pz_ 5 HT_ ?_
           refine pz_ 6 HT_ ?_
           refine tz_ 7 HT_ HW_ hHeld ?_
           refine pz_ 8 HT_ ?_
           refine tz_ 9 HT_ HW_ hHeld ?_
           refine pz_ 10 HT_ ?_
           refine pz_ 11 HT_ ?_
           refine pz_ 12 HT_ ?_
           refine pz_ 13 HT_ ?_
           refine tz_ 14 HT_ HW_ hHeld ?_
           refine pz_ 15 HT_ ?_
           refine pz_ 16 HT_ ?_
           refine pz_ 17 HT_ ?_
           refine tz_ 18 HT_ HW_ hHeld ?_
           refine pz_ 19 HT_ ?_
           refine tz_ 20 HT_ HW_ hHeld ?_
           refine pz_ 21 HT_ ?_
           refine pz_ 22 HT_ ?_
           refine tz_ 23 HT_ HW_ hHeld ?_
           refine pz_ 24 HT_ ?_
           refine pz_ 25 HT_ ?_
           have hxr := hHeld.2.2.2
           refine last_ (i := 26) (N := none) #[true, true, true, true, true, true, true, true, true, true, true, true, true, true, true, true, true, true, true, true, true, true, true, true, true, true, true] rfl rfl (one_of HT_.out (by kernel_rfl)) (by decide) (fun K hK => ?_)
           refine skip_ (w1 := ?_) (by rfl) rfl ?_ ?_
           rotate_left
           ·go_simp
            rfl
           refine hK.out _ _ ?_
           clear hK K
           refine done_ (done_of HT_.out (by kernel_rfl)) ?_
           clear HT_ HW_ hHeld hxr hfr
           have n1_ : Bk (w22.setCell ⟨B1, v.toNat, none⟩ (.int .i64 (wrap64 (gv1 + 1)))) gs (.cells #[.int .i64 n, .slice A E.length c, .slice (some ⟨gG, 0, none⟩) bl.length capG] 114 (0, 0)) := ⟨bkn BKs⟩
           have n2_ : Bk (w22.setCell ⟨B1, v.toNat, none⟩ (.int .i64 (wrap64 (gv1 + 1)))) gG (.cells cG 30 (0, 0)) := ⟨bkn BKG⟩
           have n3_ := am (Hput.out _ (wrap64 (gv1 + 1)) HI.out)
           have n4_ : Aside0 (Below w0.heap.size w0 (w22.setCell ⟨B1, v.toNat, none⟩ (.int .i64 (wrap64 (gv1 + 1))))) := ⟨bn HB⟩
           have n5_ : Aside0 (Blk (w22.setCell ⟨B1, v.toNat, none⟩ (.int .i64 (wrap64 (gv1 + 1)))) gF fr1) := ⟨BF.out.far NFB.out _ _⟩
           clear BKs BKG HI HB BF HcI Hfz Hput HcGG GEB NsB NGB NFB Hm
           generalize (w22.setCell ⟨B1, v.toNat, none⟩ (.int .i64 (wrap64 (gv1 + 1)))) = w23 at n1_ n2_ n3_ n4_ n5_ ⊢
           have BKs := n1_
           have BKG := n2_
           have HI := n3_
           have HB := n4_
           have BF := n5_
           clear n1_ n2_ n3_ n4_ n5_
           have HQ2 := am (HQ.out.upd pp.toNat v.toNat (wrap64 (gv1 + 1)))
           generalize upd go2 pp.toNat v.toNat (wrap64 (gv1 + 1)) = go3 at HI H' HQ2
           go_upto_region 23 with (fail)
           obtain ⟨cB2, hcB⟩ := HcG.out v.toNat (by have := Hl.out; omega)
           have hm_ : bl.getD v.toNat 0 ∈ bl := getD_mem (by have := Hl.out; omega)
           have hi_ : v.toNat < bl.length := by have := Hl.out; omega
           have hj_ : pp.toNat < bl.length := by have := Hl.out; omega
           have hcell : ∀ W : World, Inner W bl go3 → W.cell? ⟨bl.getD v.toNat 0, pp.toNat, none⟩ = some (.int .i64 (g2 go3 v pp)) := fun W h => (h.2 v.toNat hi_).cell pp.toNat (by rw [HQ2.out v.toNat hi_]; exact hj_)
           have hfz : ∀ W : World, Inner W bl go3 → W.frozen? ⟨bl.getD v.toNat 0, pp.toNat, none⟩ = false := fun W h => (h.2 v.toNat hi_).frozen pp.toNat
           have hput : ∀ (W : World) (u : Int), Inner W bl go3 → Inner (W.setCell ⟨bl.getD v.toNat 0, pp.toNat, none⟩ (.int .i64 u)) bl (upd go3 v.toNat pp.toNat u) := fun W u h => h.put Hn.out hi_ pp.toNat u
           have hlt : ∀ W : World, Inner W bl go3 → ∃ C, W.heap[bl.getD v.toNat 0]? = some (.cells C 3 (0, 0)) := fun W h => by obtain ⟨C, hC, _⟩ := h.2 v.toNat hi_; exact ⟨C, hC⟩
           have hcellG : ∀ W : World, W.heap[gG]? = some (.cells cG 30 (0, 0)) → W.cell? ⟨gG, v.toNat, none⟩ = some (.slice (some ⟨bl.getD v.toNat 0, 0, none⟩) bl.length cB2) := fun W h => (blk_cell h _).trans hcB
           have hge_ := Hge.out _ hm_
           clear hcB hi_ hj_
           generalize bl.getD v.toNat 0 = B2 at hm_ hcell hfz hput hcellG hge_ hlt
           generalize g2 go3 v pp = gv2 at hcell H'
           have HcI := am hcell
           have Hfz := am hfz
           have Hput := am hput
           have HcGG := am hcellG
           have GEB := am hge_
           have Hm := am hm_
           have NsB := am (show gs ≠ B2 from by obtain ⟨C, hC⟩ := hlt _ HI.out; exact blkNe BKs.out hC (by decide))
           have NGB := am (show gG ≠ B2 from by obtain ⟨C, hC⟩ := hlt _ HI.out; exact blkNe BKG.out hC (by decide))
           have NFB := am (show gF ≠ B2 from fun e => HokF.out (e ▸ hm_))
           clear hcell hfz hput hcellG hge_ hm_ hlt
           refine st_ 27 (S := fun w' => w'.cell? ⟨gs, 2, none⟩ = some (.slice (some ⟨gG, 0, none⟩) bl.length capG) ∧ w'.cell? ⟨gF, v.toNat, none⟩ = some (.int .i64 pp) ∧ w'.cell? ⟨gG, v.toNat, none⟩ = some (.slice (some ⟨B2, 0, none⟩) bl.length cB2) ∧ w'.cell? ⟨B2, pp.toNat, none⟩ = some (.int .i64 gv2)) (ds := [26]) ⟨bc BKs 2, HpF.out _ BF.out, HcGG.out _ BKG.out, HcI.out _ HI.out⟩ (fun hHeld => ?_); refine with_tabW spec_more.tab23 spec_more.bits23 (fun HT_ HW_ => ?_)
           replace BKs := bm (blk_drew BKs.out)
           replace BKG := bm (blk_drew BKG.out)
           replace BF : Aside0 (Blk w23.drew gF fr1) := ⟨BF.out⟩
           replace HI : Aside0 (Inner w23.drew bl go3) := ⟨HI.out⟩
           replace HB := am (below_drew1 HB.out)
           have hfr := Hfz.out _ HI.out
           generalize w23.drew = w24 at BKs BKG BF HI HB hHeld hfr ⊢
           refine pz_ 0 HT_ ?_
           refine pz_ 1 HT_ ?_
           refine pz_ 2 HT_ ?_
           refine tz_ 3 HT_ HW_ hHeld ?_
           refine pz_ 4 HT_ ?_
           refine pz_ 5 HT_ ?_
           refine tz_ 6 HT_ HW_ hHeld ?_
           refine pz_ 7 HT_ ?_
           refine pz_ 8 HT_ ?_
           refine pz_ 9 HT_ ?_
           refine tz_ 10 HT_ HW_ hHeld ?_
           refine pz_ 11 HT_ ?_
           refine pz_ 12 HT_ ?_
           refine pz_ 13 HT_ ?_
           refine tz_ 14 HT_ HW_ hHeld ?_
           refine pz_ 15 HT_ ?_
           refine pz_ 16 HT_ ?_
           refine tz_ 17 HT_ HW_ hHeld ?_
           refine pz_ 18 HT_ ?_
           refine pz_ 19 HT_ ?_
           refine pz_ 20 HT_ ?_
           refine tz_ 21 HT_ HW_ hHeld ?_
           refine pz_ 22 HT_ ?_
           refine tz_ 23 HT_ HW_ hHeld ?_
           refine pz_ 24 HT_ ?_
           refine pz_ 25 HT_ ?_
           have hxr := hHeld.2.2.2
           refine last_ (i := 26) (N := none) #[true, true, true, true, true, true, true, true, true, true, true, true, true, true, true, true, true, true, true, true, true, true, true, true, true, true, true] rfl rfl (one_of HT_.out (by kernel_rfl)) (by decide) (fun K hK => ?_)
           refine skip_ (w1 := ?_) (by rfl) rfl ?_ ?_
           rotate_left
           ·go_simp
            rfl
           refine hK.out _ _ ?_
           clear hK K
           refine done_ (done_of HT_.out (by kernel_rfl)) ?_
           clear HT_ HW_ hHeld hxr hfr
           have n1_ : Bk (w24.setCell ⟨B2, pp.toNat, none⟩ (.int .i64 (wrap64 (gv2 - 1)))) gs (.cells #[.int .i64 n, .slice A E.length c, .slice (some ⟨gG, 0, none⟩) bl.length capG] 114 (0, 0)) := ⟨bkn BKs⟩
           have n2_ : Bk (w24.setCell ⟨B2, pp.toNat, none⟩ (.int .i64 (wrap64 (gv2 - 1)))) gG (.cells cG 30 (0, 0)) := ⟨bkn BKG⟩
           have n3_ := am (Hput.out _ (wrap64 (gv2 - 1)) HI.out)
           have n4_ : Aside0 (Below w0.heap.size w0 (w24.setCell ⟨B2, pp.toNat, none⟩ (.int .i64 (wrap64 (gv2 - 1))))) := ⟨bn HB⟩
           have n5_ : Aside0 (Blk (w24.setCell ⟨B2, pp.toNat, none⟩ (.int .i64 (wrap64 (gv2 - 1)))) gF fr1) := ⟨BF.out.far NFB.out _ _⟩
           clear BKs BKG HI HB BF HcI Hfz Hput HcGG GEB NsB NGB NFB Hm
           generalize (w24.setCell ⟨B2, pp.toNat, none⟩ (.int .i64 (wrap64 (gv2 - 1)))) = w25 at n1_ n2_ n3_ n4_ n5_ ⊢
           have BKs := n1_
           have BKG := n2_
           have HI := n3_
           have HB := n4_
           have BF := n5_
           clear n1_ n2_ n3_ n4_ n5_
           have HQ3 := am (HQ2.out.upd v.toNat pp.toNat (wrap64 (gv2 - 1)))
           have hx9 := HpF.out _ BF.out
           go_wp2
           go_roundg k3
           case measure => have := HK3.out; omega
           case rel => exact ⟨pp, _, (by first | rfl | (simp; done) | (simp [*]; done)), H', ⟨by have := HK3.out; omega⟩, HQ3, ⟨fn BF⟩, ⟨bkn BKs⟩, ⟨bkn BKG⟩, ⟨nn HI⟩, ⟨bn HB⟩⟩
      ·rw [if_neg c12] at H
       have c12b0 : decide (0 < row.length) = false := decide_eq_false c12
       have c12b1 : decide ((row.length : Int) > 0) = false := decide_eq_false (by omega)
       have c12b2 : decide ((0 : Int) < (row.length : Int)) = false := decide_eq_false (by omega)
       replace H := ig_ H; obtain ⟨c14, H⟩ := H
       have c14b0 := decide_eq_true c14
       simp only [Option.some.injEq, Prod.mk.injEq] at H
       obtain ⟨rfl, rfl⟩ := H
       go_wp2
       go_ret
       exact ⟨rfl, bkn BKs, bkn BKG, ⟨nn HI, HQ.out⟩, bn HB⟩
def spec_FlowCount.T7 : Bool × List (List Nat × List Nat) := (true, [([], []), ([], []), ([1], [1]), ([2], [2]), ([3], [3]), ([], []), ([5], [5]), ([6, 6], [6]), ([7], [7]), ([4, 8], [4, 8]), ([0, 0, 1, 2, 3, 4, 5, 6, 7, 8, 9], [0]), ([10, 0, 1, 2, 3, 4, 5, 6, 7, 8, 9], [10]), ([11, 9, 9, 0, 1, 2, 3, 4, 5, 6, 7, 8, 9], [9, 11])])
def spec_FlowCount.B7 : List Nat := [0, 0, 2, 6, 14, 0, 32, 96, 224, 510, 1023, 2047, 4095]
theorem spec_FlowCount.tab7 : rtab .any (opsOf Try.f59 7) = spec_FlowCount.T7 := by kernel_rfl
theorem spec_FlowCount.bits7 : waitsOk spec_FlowCount.T7.2 spec_FlowCount.B7 = true := by kernel_rfl
mutual
/-- A row for each knot. -/
def spec_FlowCount.l0 : Nat → Int → List (S52) → Int → Int → List (List Int) → Int → Option Int
 | 0, _, _, _, _, _, _ => none
 | k + 1, n, E, a, b, go, x => if x < n then (if 0 < n then (if n < 1048576 then (if go.length < 1048576 then (spec_FlowCount.l0 k n E a b (go ++ [List.replicate n.toNat 0]) (wrap64 (x + 1))) else none) else none) else none) else (if 0 < n then (if (go.length : Int) = n then (spec_FlowCount.l1 k n E a b go 0) else none) else none)
/-- One more, again and again. -/
def spec_FlowCount.l1 : Nat → Int → List (S52) → Int → Int → List (List Int) → Int → Option Int
 | 0, _, _, _, _, _, _ => none
 | k + 1, n, E, a, b, go, out => (spec_more.f k n E a b go).bind fun t => (if t.1 = true then (spec_FlowCount.l1 k n E a b t.2 (wrap64 (out + 1))) else (some out))
end
def spec_FlowCount.f (k : Nat) (a0_0 : Int) (l0_1 : List (S52)) (a1 : Int) (a2 : Int) : Option Int := (spec_l1Knot.f k a0_0 l0_1 a1).bind fun t1 => (if t1 = true then ((spec_l1Knot.f k a0_0 l0_1 a2).bind fun t2 => (if t2 = true then (if a1 = a2 then (some (-1)) else (spec_FlowCount.l0 k a0_0 l0_1 a1 a2 ([] : List (List Int)) 0)) else (some (-1)))) else (some (-1)))
/-- A row's header: its block and its room. -/
def encB (m : Nat) (p : Nat × Nat) : Value := .slice (some ⟨p.1, 0, none⟩) m p.2
theorem encB_one (m : Nat) (p : Nat × Nat) : (encB m p).oneCell' = true := rfl
theorem Inner.snoc {W : World} {bl : List Nat} {go : List (List Int)} (h : Inner W bl go) {g : Nat} {xs : List Int} (k : Blk W g xs) : Inner W (bl ++ [g]) (go ++ [xs]) := by
  refine ⟨by simp [h.1], fun i hi => ?_⟩
  by_cases e : i < bl.length
  · have e1 : (bl ++ [g]).getD i 0 = bl.getD i 0 := by simp [List.getD_eq_getElem?_getD, List.getElem?_append_left e]
    have e2 : (go ++ [xs]).getD i [] = go.getD i [] := by simp [List.getD_eq_getElem?_getD, List.getElem?_append_left (h.1 ▸ e)]
    rw [e1, e2]; exact h.2 i e
  · have ei : i = bl.length := by simp at hi; omega
    have e1 : (bl ++ [g]).getD i 0 = g := by rw [ei]; simp [List.getD_eq_getElem?_getD]
    have e2 : (go ++ [xs]).getD i [] = xs := by rw [ei, h.1]; simp [List.getD_eq_getElem?_getD]
    rw [e1, e2]; exact k
theorem nodup_snoc {bl : List Nat} {g : Nat} (h : bl.Nodup) (k : g ∉ bl) : (bl ++ [g]).Nodup := by
  rw [List.nodup_append]
  refine ⟨h, by simp, fun a ha b hb => ?_⟩
  rw [List.mem_singleton] at hb
  intro e
  exact k (hb ▸ e ▸ ha)
theorem form_cells {W : World} {base : Nat} {ok : Nat → Prop} {m : Nat} {v : Value} {bs : List (Nat × Nat)} (h : Kd.R (Kd.scalar (encB m) (encB_one m)) 30 W base ok v bs) (hp : 0 < bs.length) : ∃ gG cap cG, v = .slice (some ⟨gG, 0, none⟩) bs.length cap ∧ W.heap[gG]? = some (.cells cG 30 (0, 0)) ∧ ∀ i, i < bs.length → ∃ c', cG[i]? = some (.slice (some ⟨(bs.map Prod.fst).getD i 0, 0, none⟩) m c') := by
  obtain ⟨g, cap, e, _, _, C, hC⟩ := Kd.R_form h hp
  subst e
  refine ⟨g, cap, C, rfl, hC, fun i hi => ?_⟩
  have := (Kd.R_celln (0, 0) h i (by omega) (by omega)).1
  rw [show ((i : Int)).toNat = i by omega, blk_cell hC i] at this
  refine ⟨((bs.getD i (0, 0))).2, ?_⟩
  rw [this]
  simp [rdOf, encB, List.getD_eq_getElem?_getD, hi]
section
variable {P : Program} {ops : Array Oper} {o : Oper} {a : Act} {Q : Exit → Act → World → Prop} {Kc : Act → World → Prop}
/-- Numbers made in a region. -/
theorem make_ints {W : World} (hw : Region.wanted o (yielded ops a.tmps) = true) {N : Tmp} (hd : o.dst = some N) (t : TypeId) (x y : Operand) (ho : o.op = .makeSlice t x y) (n : Int) (hx : a.eval x = .int .i64 n) (hy : a.eval y = .int .i64 n) (ht : P.underlying t = some (.slice 3))
    (hinfo : (P.info? 3).map (fun i => (i.zero, i.size, i.bytes)) = some (some (.int .i64 0), 1, 8)) (h0 : 0 ≤ n) (hn : n < 1048576) {ok : Nat → Prop} (hfresh : ok W.heap.size)
    (h : ∀ v1 w1, Kd.R (Kd.int .i64) 3 w1 W.heap.size ok v1 (List.replicate n.toNat 0) → Below W.heap.size W w1 → Kc (a.put o.dst v1) w1) : if Region.wanted o (yielded ops a.tmps) = true then Oper.wp P o a W Kc Q else Kc (a.put o.dst undef) W := by
  obtain ⟨m, rfl⟩ := Int.eq_ofNat_of_zero_le h0
  simp only [Int.toNat_natCast] at h
  obtain ⟨i0, hi, hzz⟩ := Option.map_eq_some_iff.1 hinfo
  simp only [Prod.mk.injEq] at hzz
  obtain ⟨hz0, hz1, hz2⟩ := hzz
  have hr := run_make (P := P) W t 3 i0 (.int .i64 0) ht hi hz0 .i64 .i64 (m : Int) (m : Int) (by omega) (by omega) (by rw [hz2]; omega) (by omega)
  simp only [Int.toNat_natCast] at hr
  rw [hz1] at hr
  refine Kd.R_lit_step (Kd.int .i64) W.heap.size 3 hw hd (xs := List.replicate m 0) (inner := (madeCells (Value.int .i64 0).cells (m * 1)).toList) (okp := fun _ => False) (ok := ok) ?_ (Kd.reps_made (R := (Kd.int .i64).M W W.heap.size (fun _ => False)) (z := .int .i64 0) (size := 1) (z0 := 0) rfl (by decide) rfl m) (fun _ hk => hk.elim) hfresh (Below.refl _ _) (Nat.le_refl _) (by simp; omega) (fun v1 w1 h1 h2 _ _ => h v1 w1 h1 h2)
  simp [execOp, ho, hx, hy, hr]
end
set_option maxHeartbeats 0 in
set_option maxRecDepth 100000 in
theorem spec_FlowCount.calls (k : Nat) (n : Int) (A : Option Addr) (c : Nat) (E : List (S52)) (a : Int) (b : Int) (r : Int) (w : World) (hr : Kd.C k52 w A E.length E) (hc : E.length ≤ c) (h : spec_FlowCount.f k n E a b = some r) :
  Calls Try.prog 59 #[.agg #[.int .i64 n, .slice A E.length c], .int .i64 a, .int .i64 b] w fun e w' => e = .returned (.int .i64 r) ∧ Below w.heap.size w w' := by
 have hu34 := Try.underlying25
 have hu88 := Try.underlying114
 have HR := am hr
 have HC := am hc
 clear hr hc
 have HB := am (Below.refl w.heap.size w)
 unfold spec_FlowCount.f at h
 have H := h
 clear h
 replace H := Option.bind_eq_some_iff.mp H
 obtain ⟨t1, A0, H⟩ := H
 have A1 := am A0
 clear A0
 by_cases c1 : t1 = true
 ·subst c1
  rw [if_pos rfl] at H
  replace H := Option.bind_eq_some_iff.mp H
  obtain ⟨t2, A0, H⟩ := H
  have A2 := am A0
  clear A0
  by_cases c2 : t2 = true
  ·subst c2
   rw [if_pos rfl] at H
   by_cases c3 : a = b
   ·rw [if_pos c3] at H
    have c3b0 : (a == b) = true := beq_iff_eq.mpr c3
    have c3b1 : (a != b) = false := bne_eq_false_iff_eq.mpr c3
    obtain rfl := Option.some.inj H
    go_enter Try.func59, Try.ntmps59
    go_wp2_with (first | ((with_reducible refine gate_dst (N := 3) rfl ?_); refine be_ 3 #[.int .i64 n, .slice A E.length c] 25 ?_; intro gb1 hg w3 hbox hb; have BKn := bm hbox; have GEn := am (ge_ hg HB); replace HB := bs HB hb; clear hb hbox hg; obtain ⟨hcn0, hcn1, hfn0, hfn1⟩ := Go.Proofs.YtffflhmblelegaaW.PrintWords.c2 BKn) | ((with_reducible refine gate_callee (f := 54) rfl ?_); refine gl_ (some 12) Try.func54 #[.agg #[.int .i64 n, .slice A E.length c], .int .i64 a] ?_; (with_reducible refine (spec_l1Knot.calls k n _ _ E a true _ ?side1 ?side2 A1.out).mono ?_); (case side1 => exact cb HR HB); (case side2 => exact HC.out); rintro e w5 ⟨rfl, hb⟩; refine ⟨_, rfl, ?_⟩; replace BKn := bb BKn hb; replace HB := bs HB hb; (try clear hb); (try clear hcn0 hcn1 hfn0 hfn1); obtain ⟨hcn0, hcn1, hfn0, hfn1⟩ := Go.Proofs.YtffflhmblelegaaW.PrintWords.c2 BKn) | (go_at_call 54; (with_reducible refine (spec_l1Knot.calls k n _ _ E b true _ ?side1 ?side2 A2.out).mono ?_); (case side1 => exact cb HR HB); (case side2 => exact HC.out); rintro e w6 ⟨rfl, hb⟩; replace BKn := bb BKn hb; replace HB := bs HB hb; (try clear hb); (try clear hcn0 hcn1 hfn0 hfn1); obtain ⟨hcn0, hcn1, hfn0, hfn1⟩ := Go.Proofs.YtffflhmblelegaaW.PrintWords.c2 BKn))
    go_ret
    exact ⟨rfl, bn HB⟩
   ·rw [if_neg c3] at H
    have c3b0 : (a == b) = false := beq_eq_false_iff_ne.mpr c3
    have c3b1 : (a != b) = true := bne_iff_ne.mpr c3
    have H' := am H
    clear H
    go_enter Try.func59, Try.ntmps59
    go_wp2_with (first | ((with_reducible refine gate_dst (N := 3) rfl ?_); refine be_ 3 #[.int .i64 n, .slice A E.length c] 25 ?_; intro gb1 hg w3 hbox hb; have BKn := bm hbox; have GEn := am (ge_ hg HB); replace HB := bs HB hb; clear hb hbox hg; obtain ⟨hcn0, hcn1, hfn0, hfn1⟩ := Go.Proofs.YtffflhmblelegaaW.PrintWords.c2 BKn) | ((with_reducible refine gate_callee (f := 54) rfl ?_); refine gl_ (some 12) Try.func54 #[.agg #[.int .i64 n, .slice A E.length c], .int .i64 a] ?_; (with_reducible refine (spec_l1Knot.calls k n _ _ E a true _ ?side1 ?side2 A1.out).mono ?_); (case side1 => exact cb HR HB); (case side2 => exact HC.out); rintro e w5 ⟨rfl, hb⟩; refine ⟨_, rfl, ?_⟩; replace BKn := bb BKn hb; replace HB := bs HB hb; (try clear hb); (try clear hcn0 hcn1 hfn0 hfn1); obtain ⟨hcn0, hcn1, hfn0, hfn1⟩ := Go.Proofs.YtffflhmblelegaaW.PrintWords.c2 BKn) | (go_at_call 54; (with_reducible refine (spec_l1Knot.calls k n _ _ E b true _ ?side1 ?side2 A2.out).mono ?_); (case side1 => exact cb HR HB); (case side2 => exact HC.out); rintro e w6 ⟨rfl, hb⟩; replace BKn := bb BKn hb; replace HB := bs HB hb; (try clear hb); (try clear hcn0 hcn1 hfn0 hfn1); obtain ⟨hcn0, hcn1, hfn0, hfn1⟩ := Go.Proofs.YtffflhmblelegaaW.PrintWords.c2 BKn) | ((with_reducible refine gate_dst (N := 27) rfl ?_); refine be_ 27 #[.int .i64 n, .slice A E.length c, .slice none 0 0] 114 ?_; intro gs hg w7 hbox hb; have BKs := bm hbox; have GEs := am (ge_ hg HB); replace HB := bs HB hb; obtain ⟨NBn_s, NBs_n⟩ := nb_ hg BKn; replace BKn := bb BKn hb; clear hb hbox hg))
    go_loopg [8] k (fun kq v8 w' => ∃ (x : Int) (go : List (List Int)) (bs_ : List (Nat × Nat)) (vG : Value), v8 = .int .i64 x ∧ Aside0 (spec_FlowCount.l0 kq n E a b go x = some r) ∧ Aside0 (kq ≤ k) ∧ Aside0 (Kd.R (Kd.scalar (encB n.toNat) (encB_one n.toNat)) 30 w' w.heap.size (fun _ => True) vG bs_) ∧ Aside0 (Inner w' (bs_.map Prod.fst) go) ∧ Aside0 ((bs_.map Prod.fst).Nodup) ∧ Aside0 (∀ g ∈ bs_.map Prod.fst, w.heap.size ≤ g) ∧ Aside0 (∀ xs ∈ go, xs.length = n.toNat) ∧ Bk w' gb1 (.cells #[.int .i64 n, .slice A E.length c] 25 (0, 0)) ∧ Bk w' gs (.cells #[.int .i64 n, .slice A E.length c, vG] 114 (0, 0)) ∧ Aside0 (Below w.heap.size w w'))
    case atStart => exact ⟨0, [], [], .slice none 0 0, (by first | rfl | (simp; done) | (simp [*]; done)), H', ⟨Nat.le_refl _⟩, ⟨Kd.R_nil _ _ _ _ _⟩, ⟨⟨rfl, fun i hi => absurd hi (by simp)⟩⟩, ⟨by simp⟩, ⟨by simp⟩, ⟨by simp⟩, ⟨bkn BKn⟩, ⟨bkn BKs⟩, ⟨bn HB⟩⟩
    case round =>
     clear H' A1 A2
     clear BKn BKs HB
     obtain ⟨x, go, bs_, vG, rfl, HA, HK1, HG, HI, Hn, Hge, Hrow, BKn, BKs, HB⟩ := hrel
     cases gk with
     | zero => exact absurd HA.out (by simp [spec_FlowCount.l0])
     | succ k1 =>
      have H := HA.out
      clear HA
      simp only [spec_FlowCount.l0] at H
      (try clear hcn0 hcn1 hfn0 hfn1)
      obtain ⟨hcn0, hcn1, hfn0, hfn1⟩ := Go.Proofs.YtffflhmblelegaaW.PrintWords.c2 BKn
      by_cases c10 : x < n
      ·rw [if_pos c10] at H
       have c10b0 := decide_eq_true c10
       replace H := ig_ H; obtain ⟨c11, H⟩ := H
       replace H := ig_ H; obtain ⟨c12, H⟩ := H
       replace H := ig_ H; obtain ⟨c13, H⟩ := H
       have H' := am H
       clear H
       go_upto_region 7 with (fail)
       refine st_ 13 (S := fun w' => w'.cell? ⟨gs, 2, none⟩ = some vG ∧ w'.cell? ⟨gb1, 0, none⟩ = some (.int .i64 n)) (ds := [12]) ⟨bc BKs 2, bc BKn 0⟩ (fun hHeld => ?_); refine with_tabW spec_FlowCount.tab7 spec_FlowCount.bits7 (fun HT_ HW_ => ?_)
       replace BKs := bm (blk_drew BKs.out)
       replace BKn := bm (blk_drew BKn.out)
       replace HI : Aside0 (Inner wr.drew (bs_.map Prod.fst) go) := ⟨HI.out⟩
       replace HG := am (Kd.R_drew HG.out)
       replace HB := am (below_drew1 HB.out)
       clear hcn0 hcn1 hfn0 hfn1
       generalize wr.drew = w8 at BKs BKn HI HG HB hHeld ⊢
       refine pz_ 0 HT_ ?_
       refine pz_ 1 HT_ ?_
       refine pz_ 2 HT_ ?_
       refine pz_ 3 HT_ ?_
       refine tz_ 4 HT_ HW_ hHeld ?_
       refine pz_ 5 HT_ ?_
       refine tz_ 6 HT_ HW_ hHeld ?_
       have hfr : w8.heap.size ∉ bs_.map Prod.fst := fun m => Nat.lt_irrefl _ (HI.out.mem m)
       refine on_ 7 HT_ (fun K hK => ?_)
       refine make_ints (by rfl) (N := 41) rfl 30 (.tmp 40) (.tmp 40) rfl n rfl rfl Try.underlying30 info3 (by omega) c12 (ok := fun k => k ∉ bs_.map Prod.fst) hfr ?_
       intro v41 w9 ho hb
       clear hfr
       have HV := am (Kd.R_lower ho (below_size (bn HB)))
       replace BKs := bb BKs hb
       replace BKn := bb BKn hb
       replace HI := am (HI.out.below hb)
       replace HG := am (Kd.R_below (onR HG) hb)
       replace HB := bs HB hb
       clear ho hb
       obtain ⟨gN, capN, eN, hgN, hBN, hokN⟩ := Blk.ofR HV.out (by rw [List.length_replicate]; omega)
       rw [List.length_replicate] at eN
       subst eN
       clear HV
       have BN := am hBN
       clear hBN
       refine hK.out _ _ ⟨bc BKs 2, bc BKn 0⟩ (fun hHeld => ?_)
       clear hK K
       refine nz_ 41 ?_
       refine on_ 8 HT_ (fun K hK => ?_)
       refine value_ (w1 := ?_) (v := ?_) (by rfl) rfl ?_ ?_
       rotate_left 2
       ·go_simp
        constructor
        ·rfl
        ·rfl
       refine hK.out _ _ ⟨bc (bm (blk_alloc BKs.out _)) 2, bc (bm (blk_alloc BKn.out _)) 0⟩ (fun hHeld => ?_)
       clear hK K
       refine nz_ 42 ?_
       refine on_ 9 HT_ (fun K hK => ?_)
       refine Kd.R_append_step (Kd.scalar (encB n.toNat) (encB_one n.toNat)) (w0 := w) w.heap.size (by rfl) (.tmp 38) (.tmp 42) 26 30 (.slice none 0 0) 24 rfl Try.underlying26 infoRow_ rfl (show 0 < 1 by decide) (by omega) vG bs_ (gN, capN) [encB n.toNat (gN, capN)] (fun _ => True) (fun _ => False) rfl rfl ?aP (fun _ hk => hk.elim) ?aF ?aO ?aB ?aS ?aL ?_
       (case aP => exact rfl)
       (case aB => exact (bn HB))
       (case aF => exact (fun _ _ => trivial))
       (case aO => exact (onR HG))
       (case aS => exact (below_size (bn HB)))
       (case aL => have := HI.out.1; rw [List.length_map] at this; omega)
       intro v43 w10 ho hb hg hat
       obtain ⟨bs1, hbs1⟩ : ∃ y, y = bs_ ++ [(gN, capN)] := ⟨_, rfl⟩
       rw [← hbs1] at ho
       have Nbs1 := am hbs1
       clear hbs1
       have n0_ := bm (blk_grown (bkn BKs) hg (Kd.R_ne HG.out BKs.out (by decide)))
       have n1_ := bm (blk_grown (bkn BKn) hg (Kd.R_ne HG.out BKn.out (by decide)))
       have n2_ := am ((nn HI).grown hg (fun g hm => by obtain ⟨i, hi, e⟩ := List.mem_iff_getElem.1 hm; obtain ⟨C, hC, _⟩ := HI.out.2 i hi; rw [show (bs_.map Prod.fst).getD i 0 = g by simp only [List.getD_eq_getElem?_getD, List.getElem?_eq_getElem hi, Option.getD_some]; exact e] at hC; exact Kd.R_ne HG.out hC (by decide)))
       have n3_ := am ((fn BN).grown hg (by obtain ⟨C, hC, _⟩ := BN.out; exact Kd.R_ne HG.out hC (by decide)))
       have n4_ := am hb
       have n5_ := am ho
       clear BKs BKn HI BN HB HG
       have BKs := n0_
       have BKn := n1_
       have HI := n2_
       have BN := n3_
       have HB := n4_
       have HG := n5_
       clear n0_ n1_ n2_ n3_ n4_ n5_ ho hb hg hat
       obtain ⟨Ao43, co43, eo43⟩ := Kd.R_slice HG.out
       subst eo43
       refine hK.out _ _ ⟨bc BKs 2, bc BKn 0⟩ (fun hHeld => ?_)
       clear hK K
       refine nz_ 43 ?_
       refine pz_ 10 HT_ ?_
       refine pz_ 11 HT_ ?_
       refine last_ (i := 12) (N := none) #[true, true, true, true, true, true, true, true, true, true, true, true, true] rfl rfl (one_of HT_.out (by kernel_rfl)) (by decide) (fun K hK => ?_)
       have hs1 := bc BKs 2
       have hs2 := blk_frozen BKs.out 2
       refine skip_ (w1 := ?_) (by rfl) rfl ?_ ?_
       rotate_left
       ·go_simp
        rfl
       refine hK.out _ _ ?_
       clear hK K
       refine done_ (done_of HT_.out (by kernel_rfl)) ?_
       clear HT_ HW_ hHeld hs1 hs2
       have n0_ : Bk (w10.setCell ⟨gs, 2, none⟩ (.slice Ao43 bs1.length co43)) gs (.cells #[.int .i64 n, .slice A E.length c, .slice Ao43 bs1.length co43] 114 (0, 0)) := ⟨by refine blk_put (cs := #[.int .i64 n, .slice A E.length c, vG]) ?_ 2 _ rfl; exact BKs.out⟩
       have n1_ : Bk (w10.setCell ⟨gs, 2, none⟩ (.slice Ao43 bs1.length co43)) gb1 (.cells #[.int .i64 n, .slice A E.length c] 25 (0, 0)) := ⟨bkn BKn⟩
       have hgs : gs ∉ bs_.map Prod.fst := fun hm => by
        obtain ⟨i, hi, e⟩ := List.mem_iff_getElem.1 hm
        obtain ⟨C, hC, _⟩ := HI.out.2 i hi
        rw [show (bs_.map Prod.fst).getD i 0 = gs by simp only [List.getD_eq_getElem?_getD, List.getElem?_eq_getElem hi, Option.getD_some]; exact e] at hC
        exact blkNe BKs.out hC (by decide) rfl
       have hgN2 : gN ≠ gs := by obtain ⟨C, hC, _⟩ := BN.out; exact fun e => blkNe BKs.out hC (by decide) e.symm
       have n2_ : Aside0 (Inner (w10.setCell ⟨gs, 2, none⟩ (.slice Ao43 bs1.length co43)) (bs_.map Prod.fst) go) := ⟨Inner.far HI.out hgs _ _⟩
       have n3_ : Aside0 (Blk (w10.setCell ⟨gs, 2, none⟩ (.slice Ao43 bs1.length co43)) gN (List.replicate n.toNat 0)) := ⟨BN.out.far hgN2 _ _⟩
       have n4_ : Aside0 (Below w.heap.size w (w10.setCell ⟨gs, 2, none⟩ (.slice Ao43 bs1.length co43))) := ⟨bn HB⟩
       have n5_ : Aside0 (Kd.R (Kd.scalar (encB n.toNat) (encB_one n.toNat)) 30 (w10.setCell ⟨gs, 2, none⟩ (.slice Ao43 bs1.length co43)) w.heap.size (fun _ => True) (.slice Ao43 bs1.length co43) bs1) := am (Kd.R_mono (Kd.R_far (p := ⟨gs, 2, none⟩) (Kd.R_types HG.out BKs.out (show ∀ q : Nat, q ∈ 30 :: ([] : List Nat) → q ≠ 114 by decide)) (fun _ hk => hk.2) (.slice Ao43 bs1.length co43)) (fun _ hk => trivial))
       clear BKs BKn HI BN HB HG hgs hgN2
       generalize (w10.setCell ⟨gs, 2, none⟩ (.slice Ao43 bs1.length co43)) = w11 at n0_ n1_ n2_ n3_ n4_ n5_ ⊢
       have BKs := n0_
       have BKn := n1_
       have HI := n2_
       have BN := n3_
       have HB := n4_
       have HG := n5_
       clear n0_ n1_ n2_ n3_ n4_ n5_
       go_wp2
       go_roundg k1
       case measure => have := HK1.out; omega
       case rel => exact ⟨wrap64 (x + 1), go ++ [List.replicate n.toNat 0], bs1, _, (by first | rfl | (simp; done) | (simp [*]; done)), H', ⟨by have := HK1.out; omega⟩, ⟨onR HG⟩, ⟨by rw [Nbs1.out, List.map_append]; exact (nn HI).snoc (fn BN)⟩, ⟨by rw [Nbs1.out, List.map_append]; exact nodup_snoc Hn.out hokN⟩, ⟨by rw [Nbs1.out, List.map_append]; intro g hm; rcases List.mem_append.1 hm with m | m; (· exact Hge.out g m); (· rw [List.map_singleton, List.mem_singleton] at m; rw [m]; exact hgN)⟩, ⟨by intro xs hm; rcases List.mem_append.1 hm with m | m; (· exact Hrow.out xs m); (· rw [List.mem_singleton] at m; rw [m, List.length_replicate])⟩, ⟨bkn BKn⟩, ⟨bkn BKs⟩, ⟨bn HB⟩⟩
      ·rw [if_neg c10] at H
       have c10b0 := decide_eq_false c10
       replace H := ig_ H; obtain ⟨c20, H⟩ := H
       replace H := ig_ H; obtain ⟨c21, H⟩ := H
       have H' := am H
       clear H
       have e0 : bs_.length = go.length := by have := HI.out.1; rwa [List.length_map] at this
       obtain ⟨gG, capG, cG, eG, hG, hcG⟩ := form_cells HG.out (by omega)
       subst eG
       have e1 : n.toNat = (bs_.map Prod.fst).length := by rw [List.length_map]; omega
       have e2 : bs_.length = (bs_.map Prod.fst).length := by rw [List.length_map]
       have hl : n = ((bs_.map Prod.fst).length : Int) := by rw [List.length_map]; omega
       rw [e1] at hcG
       rw [e2] at hcG BKs
       have hq : Sq (bs_.map Prod.fst).length go := fun i hi => by
        have hig : i < go.length := by rw [← HI.out.1]; exact hi
        have := Hrow.out (go.getD i []) (by simp [List.getD_eq_getElem?_getD, hig])
        rw [this, e1]
       clear HG Hrow e0 e1 e2
       generalize bs_.map Prod.fst = bl at HI Hn Hge BKs hcG hl hq
       have HQ := am hq
       have HcG := am hcG
       have Hl := am hl
       have BKG := bm hG
       clear hq hcG hl hG
       go_wp2
       go_loopg [9] k1 (fun kq v9 w' => ∃ (out : Int) (go1 : List (List Int)), v9 = .int .i64 out ∧ Aside0 (spec_FlowCount.l1 kq n E a b go1 out = some r) ∧ Aside0 (kq ≤ k1) ∧ Aside0 (Sq bl.length go1) ∧ Bk w' gs (.cells #[.int .i64 n, .slice A E.length c, .slice (some ⟨gG, 0, none⟩) bl.length capG] 114 (0, 0)) ∧ Bk w' gG (.cells cG 30 (0, 0)) ∧ Aside0 (Inner w' bl go1) ∧ Aside0 (Below w.heap.size w w'))
       case atStart => exact ⟨0, go, (by first | rfl | (simp; done) | (simp [*]; done)), H', ⟨Nat.le_refl _⟩, HQ, ⟨bkn BKs⟩, ⟨bkn BKG⟩, ⟨nn HI⟩, ⟨bn HB⟩⟩
       case round =>
        clear H' HQ
        clear BKs BKG HI HB
        obtain ⟨out, go1, rfl, HA, HK2, HQ, BKs, BKG, HI, HB⟩ := hrel
        cases gk with
        | zero => exact absurd HA.out (by simp [spec_FlowCount.l1])
        | succ k2 =>
         have H := HA.out
         clear HA
         simp only [spec_FlowCount.l1] at H
         replace H := Option.bind_eq_some_iff.mp H
         obtain ⟨⟨t, go2⟩, A0, H⟩ := H
         have A1 := am A0
         clear A0
         dsimp only at H
         by_cases c30 : t = true
         ·subst c30
          rw [if_pos rfl] at H
          have H' := am H
          clear H
          go_wp2_with (first | ((with_reducible refine gate_callee (f := 98) rfl ?_); refine gl_ (some 49) Try.func98 #[.pointer (some ⟨gs, 0, none⟩), .int .i64 a, .int .i64 b] ?_; (with_reducible refine (spec_more.calls k2 n A c E a b go1 true go2 w _ gs gG capG cG bl HR.out HC.out (bn HB) (bkn BKs) (bkn BKG) HcG.out (nn HI) HQ.out Hn.out Hge.out Hl.out A1.out).mono ?_); rintro e w9 ⟨rfl, hbs, hbG, ⟨hbI, hbQ⟩, hbB⟩; refine ⟨_, rfl, ?_⟩; replace BKs := bm hbs; replace BKG := bm hbG; replace HI := am hbI; replace HQ := am hbQ; replace HB := am hbB; clear hbs hbG hbI hbQ hbB))
          go_roundg k2
          case measure => have := HK2.out; omega
          case rel => exact ⟨wrap64 (out + 1), go2, (by first | rfl | (simp; done) | (simp [*]; done)), H', ⟨by have := HK2.out; omega⟩, HQ, ⟨bkn BKs⟩, ⟨bkn BKG⟩, ⟨nn HI⟩, ⟨bn HB⟩⟩
         ·replace c30 := Bool.eq_false_iff.mpr c30
          subst c30
          rw [if_neg (show ¬ (false = true) by decide)] at H
          obtain rfl := Option.some.inj H
          go_wp2_with (first | ((with_reducible refine gate_callee (f := 98) rfl ?_); refine gl_ (some 49) Try.func98 #[.pointer (some ⟨gs, 0, none⟩), .int .i64 a, .int .i64 b] ?_; (with_reducible refine (spec_more.calls k2 n A c E a b go1 false go2 w _ gs gG capG cG bl HR.out HC.out (bn HB) (bkn BKs) (bkn BKG) HcG.out (nn HI) HQ.out Hn.out Hge.out Hl.out A1.out).mono ?_); rintro e w9 ⟨rfl, hbs, hbG, ⟨hbI, hbQ⟩, hbB⟩; refine ⟨_, rfl, ?_⟩; replace BKs := bm hbs; replace BKG := bm hbG; replace HI := am hbI; replace HQ := am hbQ; replace HB := am hbB; clear hbs hbG hbI hbQ hbB))
          go_ret
          exact ⟨rfl, bn HB⟩
  ·replace c2 := Bool.eq_false_iff.mpr c2
   subst c2
   rw [if_neg (show ¬ (false = true) by decide)] at H
   obtain rfl := Option.some.inj H
   go_enter Try.func59, Try.ntmps59
   go_wp2_with (first | ((with_reducible refine gate_dst (N := 3) rfl ?_); refine be_ 3 #[.int .i64 n, .slice A E.length c] 25 ?_; intro gb1 hg w3 hbox hb; have BKn := bm hbox; have GEn := am (ge_ hg HB); replace HB := bs HB hb; clear hb hbox hg; obtain ⟨hcn0, hcn1, hfn0, hfn1⟩ := Go.Proofs.YtffflhmblelegaaW.PrintWords.c2 BKn) | ((with_reducible refine gate_callee (f := 54) rfl ?_); refine gl_ (some 12) Try.func54 #[.agg #[.int .i64 n, .slice A E.length c], .int .i64 a] ?_; (with_reducible refine (spec_l1Knot.calls k n _ _ E a true _ ?side1 ?side2 A1.out).mono ?_); (case side1 => exact cb HR HB); (case side2 => exact HC.out); rintro e w5 ⟨rfl, hb⟩; refine ⟨_, rfl, ?_⟩; replace BKn := bb BKn hb; replace HB := bs HB hb; (try clear hb); (try clear hcn0 hcn1 hfn0 hfn1); obtain ⟨hcn0, hcn1, hfn0, hfn1⟩ := Go.Proofs.YtffflhmblelegaaW.PrintWords.c2 BKn) | (go_at_call 54; (with_reducible refine (spec_l1Knot.calls k n _ _ E b false _ ?side1 ?side2 A2.out).mono ?_); (case side1 => exact cb HR HB); (case side2 => exact HC.out); rintro e w6 ⟨rfl, hb⟩; replace BKn := bb BKn hb; replace HB := bs HB hb; (try clear hb); (try clear hcn0 hcn1 hfn0 hfn1); obtain ⟨hcn0, hcn1, hfn0, hfn1⟩ := Go.Proofs.YtffflhmblelegaaW.PrintWords.c2 BKn))
   go_ret
   exact ⟨rfl, bn HB⟩
 ·replace c1 := Bool.eq_false_iff.mpr c1
  subst c1
  rw [if_neg (show ¬ (false = true) by decide)] at H
  obtain rfl := Option.some.inj H
  go_enter Try.func59, Try.ntmps59
  go_wp2_with (first | ((with_reducible refine gate_dst (N := 3) rfl ?_); refine be_ 3 #[.int .i64 n, .slice A E.length c] 25 ?_; intro gb1 hg w3 hbox hb; have BKn := bm hbox; have GEn := am (ge_ hg HB); replace HB := bs HB hb; clear hb hbox hg; obtain ⟨hcn0, hcn1, hfn0, hfn1⟩ := Go.Proofs.YtffflhmblelegaaW.PrintWords.c2 BKn) | ((with_reducible refine gate_callee (f := 54) rfl ?_); refine gl_ (some 12) Try.func54 #[.agg #[.int .i64 n, .slice A E.length c], .int .i64 a] ?_; (with_reducible refine (spec_l1Knot.calls k n _ _ E a false _ ?side1 ?side2 A1.out).mono ?_); (case side1 => exact cb HR HB); (case side2 => exact HC.out); rintro e w5 ⟨rfl, hb⟩; refine ⟨_, rfl, ?_⟩; replace BKn := bb BKn hb; replace HB := bs HB hb; (try clear hb); (try clear hcn0 hcn1 hfn0 hfn1); obtain ⟨hcn0, hcn1, hfn0, hfn1⟩ := Go.Proofs.YtffflhmblelegaaW.PrintWords.c2 BKn))
  go_ret
  exact ⟨rfl, bn HB⟩
end Go.Proofs.Ytffflhmblelegaa.F
