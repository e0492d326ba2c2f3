/-
slices.Sort and slices.Compact at a row of numbers of the call's own: the numbers in order; equal neighbours once.
-/
import Derived.Test.YtffflhmblelegaaXSort
import Derived.Test.YtffflhmblelegaaXLayI
namespace Go.Proofs.Ytffflhmblelegaa.F
open Go.RowKit Go.Proofs.YtffflhmblelegaaW.PrintWords Go.Proofs.YtffflhmblelegaaW.PrintLast Go.Proofs.YtffflhmblelegaaW.PrintMore
open Go.Sort (Holds)

section
variable {g n cap base : Nat} {ok : Nat → Prop} {W w1 : World} {xs ys : List Int}
theorem I_cells (h : (Kd.int .i64).R 3 W base ok (.slice (some ⟨g, 0, none⟩) n cap) xs) : ∃ cur : Array Value, ok g ∧ base ≤ g ∧ n = xs.length ∧ W.heap[g]? = some (.cells cur 3 (0, 0)) ∧ n ≤ cap ∧ cap ≤ maxLen ∧ cur.size = cap ∧ ∀ (j : Nat) (hj : j < xs.length), cur[j]? = some (.int .i64 xs[j]) := by
  obtain ⟨cur, h1, h2, h3, h4, h5, h6, h7, h8⟩ := R_unf h
  have h7' : cur.size = cap := by rw [h7]; exact Nat.mul_one _
  refine ⟨cur, h1, h2, h3, h4, h5, h6, h7', fun j hj => ?_⟩
  have hM : ((cur.toList.take (n * 1)).drop (j * 1)).take 1 = [.int .i64 xs[j]] := h8.2 j _ (List.getElem?_eq_getElem hj)
  have := congrArg (fun l : List Value => l[0]?) hM
  simp only [Nat.mul_one] at this
  rw [List.getElem?_take, if_pos (by omega), List.getElem?_drop, List.getElem?_take, if_pos (by omega), Array.getElem?_toList, Nat.add_zero] at this
  exact this
theorem I_of {cur : Array Value} (h1 : ok g) (h2 : base ≤ g) (hh : W.heap[g]? = some (.cells cur 3 (0, 0))) (h3 : ys.length ≤ cap) (h4 : cap ≤ maxLen) (h5 : cur.size = cap) (hc : ∀ (j : Nat) (hj : j < ys.length), cur[j]? = some (.int .i64 ys[j])) :
    (Kd.int .i64).R 3 W base ok (.slice (some ⟨g, 0, none⟩) ys.length cap) ys := by
  have hl : (cur.toList.take (ys.length * 1)).length = ys.length * 1 := by rw [List.length_take, show cur.toList.length = cur.size from Array.length_toList]; omega
  refine ⟨fun k hk => by have : g = k := by simpa [Value.ownBlock] using hk
                         subst this; exact h1, cur.toList.take (ys.length * 1), ⟨hl, Or.inr ⟨g, cap, cur, rfl, h2, hh, h3, h4, by rw [h5]; exact (Nat.mul_one _).symm, rfl⟩⟩, hl, fun j p hp => ?_⟩
  obtain ⟨hj, rfl⟩ := List.getElem?_eq_some_iff.1 hp
  show ((cur.toList.take (ys.length * 1)).drop (j * 1)).take 1 = [.int .i64 ys[j]]
  refine List.ext_getElem? (fun c => ?_)
  by_cases hcz : c < 1
  · obtain rfl : c = 0 := by omega
    rw [List.getElem?_take, if_pos hcz, List.getElem?_drop, List.getElem?_take, if_pos (by omega), Array.getElem?_toList, Nat.mul_one, Nat.add_zero, hc j hj]
    rfl
  · rw [List.getElem?_take, if_neg hcz, List.getElem?_eq_none (by simp; omega)]
theorem I_holds {cur : Array Value} (hh : W.heap[g]? = some (.cells cur 3 (0, 0))) (hc : ∀ (j : Nat) (hj : j < xs.length), cur[j]? = some (.int .i64 xs[j])) : Holds (Value.int .i64) W g 0 xs.toArray := by
  intro j hj
  have hj' : j < xs.length := by simpa using hj
  refine ⟨?_, by simp [World.frozen?, hh]⟩
  simp only [World.cell?, hh, Nat.zero_add, Option.isSome_none, Bool.false_eq_true, if_false]
  rw [hc j hj', getElem!_pos xs.toArray j hj]
  simp
theorem put_I {cur : Array Value} (hh : W.heap[g]? = some (.cells cur 3 (0, 0))) (D : Array Int) (m : Nat) (os : Array Obj) :
    (Go.Sort.grow (Go.Sort.putRow (Value.int .i64) (Go.Sort.ahead W m) g 0 D) os).heap[g]? = some (.cells (Go.Sort.putCells (Value.int .i64) 0 D cur) 3 (0, 0)) ∧ KeepBut W (Go.Sort.grow (Go.Sort.putRow (Value.int .i64) (Go.Sort.ahead W m) g 0 D) os) g none := by
  have hlt := blk_lt hh
  unfold Go.Sort.grow Go.Sort.putRow Go.Sort.mapBlock
  refine ⟨?_, by simp, fun i hi hne _ => ?_⟩
  · simp only [Go.Sort.heap_ahead]
    rw [Array.getElem?_append_left (by simpa using hlt), Array.getElem?_modify, if_pos rfl, hh]
    rfl
  · simp only [Go.Sort.heap_ahead]
    rw [Array.getElem?_append_left (by simpa using hi), Array.getElem?_modify, if_neg (fun e => hne e.symm)]
theorem put_I_cell {cur : Array Value} (D : List Int) (hs : D.length ≤ cur.size) (j : Nat) (hj : j < D.length) : (Go.Sort.putCells (Value.int .i64) 0 D.toArray cur)[j]? = some (.int .i64 D[j]) := by
  unfold Go.Sort.putCells
  rw [Array.getElem?_mapIdx, Array.getElem?_eq_getElem (by omega), Option.map_some, if_pos ⟨Nat.zero_le _, by simpa using hj⟩, Nat.sub_zero, getElem!_pos D.toArray j (by simpa using hj)]
  simp
def sortI (xs : List Int) : List Int := xs.mergeSort fun x y => decide (x ≤ y)
theorem sort_I (h : (Kd.int .i64).R 3 W base ok (.slice (some ⟨g, 0, none⟩) n cap) xs) (hm : n < 4611686018427387904) :
    Calls Try.prog 87 #[.slice (some ⟨g, 0, none⟩) n cap] W fun e' w' => e' = .returned (.tuple #[]) ∧ (Kd.int .i64).R 3 w' base ok (.slice (some ⟨g, 0, none⟩) n cap) (sortI xs) ∧ KeepBut W w' g none ∧ w'.os = W.os ∧ w'.tape = W.tape ∧ w'.output = W.output := by
  obtain ⟨cur, h1, h2, rfl, h4, h5, h6, h7, h8⟩ := I_cells h
  have hcon := Go.Proofs.Any.slices_Sort_int laySortI g 0 cap xs W (I_holds h4 h8) (blk_lt h4) hm
  refine Calls.mono (show Calls Try.prog 87 _ _ _ from hcon) ?_
  rintro e' w' ⟨rfl, m, os, rfl⟩
  obtain ⟨hb, hk⟩ := put_I h4 (sortI xs).toArray m os
  have hl : (sortI xs).length = xs.length := List.length_mergeSort _
  refine ⟨rfl, ?_, hk, rfl, rfl, rfl⟩
  have := I_of (ok := ok) (ys := sortI xs) (cap := cap) h1 h2 hb (by rw [hl]; exact h5) h6 (by unfold Go.Sort.putCells; rw [Array.size_mapIdx]; exact h7) (fun j hj => put_I_cell _ (by rw [hl]; omega) j hj)
  rw [hl] at this
  exact this
theorem compact_le (zs : List Int) : (Go.Lib.compact zs).length ≤ zs.length := by
  unfold Go.Lib.compact Go.Lib.compactUpTo
  rw [List.length_map]
  refine Nat.le_trans (List.length_filter_le _ _) ?_
  rw [List.length_range]; exact Nat.le_refl _
theorem compact_I (h : (Kd.int .i64).R 3 W base ok (.slice (some ⟨g, 0, none⟩) n cap) xs) :
    Calls Try.prog 88 #[.slice (some ⟨g, 0, none⟩) n cap] W fun e' w' => e' = .returned (.slice (some ⟨g, 0, none⟩) (Go.Lib.compact xs).length cap) ∧ (Kd.int .i64).R 3 w' base ok (.slice (some ⟨g, 0, none⟩) (Go.Lib.compact xs).length cap) (Go.Lib.compact xs) ∧ KeepBut W w' g none ∧ w'.os = W.os ∧ w'.tape = W.tape ∧ w'.output = W.output := by
  obtain ⟨cur, h1, h2, rfl, h4, h5, h6, h7, h8⟩ := I_cells h
  have hcon := Go.Proofs.Any.slices_Compact_int layCompI g 0 cap xs W (I_holds h4 h8) (by unfold maxLen at h6; omega) h5
  refine Calls.mono (show Calls Try.prog 88 _ _ _ from hcon) ?_
  rintro e' w' ⟨rfl, m, rfl⟩
  have hl := compact_le xs
  generalize hA : Go.Lib.compact xs ++ List.replicate (xs.length - (Go.Lib.compact xs).length) 0 = A
  have hAl : A.length = xs.length := by rw [← hA, List.length_append, List.length_replicate]; omega
  have hg : ∀ D : Array Int, Go.Sort.putRow (Value.int .i64) (Go.Sort.ahead W m) g 0 D = Go.Sort.grow (Go.Sort.putRow (Value.int .i64) (Go.Sort.ahead W m) g 0 D) #[] := fun D => by unfold Go.Sort.grow; simp; rfl
  obtain ⟨hb, hk⟩ := put_I h4 A.toArray m #[]
  rw [← hg] at hb hk
  refine ⟨rfl, ?_, hk, rfl, rfl, rfl⟩
  refine I_of (ok := ok) (ys := Go.Lib.compact xs) (cap := cap) h1 h2 hb (by omega) h6 (by unfold Go.Sort.putCells; rw [Array.size_mapIdx]; exact h7) (fun j hj => ?_)
  rw [put_I_cell A (by omega) j (by omega)]
  subst hA
  rw [List.getElem_append_left hj]
end
theorem own_cut_I (A : Option Addr) (n m c : Nat) : (Value.slice A n c).ownBlock = (Value.slice A m c).ownBlock := by cases A <;> rfl
theorem grown_keep {W w1 : World} {g : Nat} (hk : KeepBut W w1 g none) (h1 : w1.os = W.os) (h2 : w1.tape = W.tape) (h3 : w1.output = W.output) : W.grownBy w1 (some g) :=
  ⟨h1, h2, h3, hk.1, fun k hkk hne => hk.2 k hkk (fun e => hne (by rw [e])) (by simp)⟩
theorem below_grown_I {base : Nat} {w W W1 : World} {o : Option Nat} (HB : Below base w W) (hg : W.grownBy W1 o) (ho : ∀ k, o = some k → base ≤ k) (hb : base ≤ w.heap.size := by exact Nat.le_refl _) : Below base w W1 :=
  ⟨hg.os.trans HB.os, hg.tape.trans HB.tape, hg.output.trans HB.output, Nat.le_trans HB.size hg.size, fun k hk => (hg.block k (Nat.lt_of_lt_of_le hk (Nat.le_trans hb HB.size)) (fun e => by have := ho k e.symm; omega)).trans (HB.block k hk)⟩
theorem sort_row_I {W : World} {base n c : Nat} {ok : Nat → Prop} {A : Option Addr} {xs : List Int} (h : (Kd.int .i64).R 3 W base ok (.slice A n c) xs) (hm : n < 4611686018427387904) :
    Calls Try.prog 87 #[.slice A n c] W fun e' w' => e' = .returned (.tuple #[]) ∧ (Kd.int .i64).R 3 w' base ok (.slice A n c) (sortI xs) ∧ W.grownBy w' (.slice A n c : Value).ownBlock := by
  cases A with
  | none =>
    have hx := Kd.R_slice h
    obtain ⟨A', c', e⟩ := hx
    injection e with e1 e2 e3
    have hxs : xs = [] := by
      have hr := (Kd.R_reads' h)
      cases xs with
      | nil => rfl
      | cons a l =>
        obtain ⟨ad, hq, _⟩ := hr.2.2.2.2 (by rw [hr.1] at *; simp)
        cases hq
    subst hxs
    have hn : n = 0 := by rw [e2]; rfl
    subst hn
    refine Calls.mono (show Calls Try.prog 87 _ _ _ from Go.Proofs.Any.slices_Sort_int_none laySortI none c W) ?_
    rintro e' w' ⟨rfl, rfl⟩
    exact ⟨rfl, by rw [show sortI [] = [] from by simp [sortI]]; exact h, rfl, rfl, rfl, Nat.le_refl _, fun _ _ _ => rfl⟩
  | some ad =>
    obtain ⟨g, rfl⟩ := Kd.R_head h
    refine (sort_I h hm).mono ?_
    rintro e' w' ⟨rfl, h1, h2, h3, h4, h5⟩
    exact ⟨rfl, h1, grown_keep h2 h3 h4 h5⟩
theorem compact_row_I {W : World} {base n c : Nat} {ok : Nat → Prop} {A : Option Addr} {xs : List Int} (h : (Kd.int .i64).R 3 W base ok (.slice A n c) xs) :
    Calls Try.prog 88 #[.slice A n c] W fun e' w' => e' = .returned (.slice A (Go.Lib.compact xs).length c) ∧ (Kd.int .i64).R 3 w' base ok (.slice A (Go.Lib.compact xs).length c) (Go.Lib.compact xs) ∧ W.grownBy w' (.slice A n c : Value).ownBlock := by
  cases A with
  | none =>
    have hx := Kd.R_slice h
    obtain ⟨A', c', e⟩ := hx
    injection e with e1 e2 e3
    have hxs : xs = [] := by
      have hr := (Kd.R_reads' h)
      cases xs with
      | nil => rfl
      | cons a l =>
        obtain ⟨ad, hq, _⟩ := hr.2.2.2.2 (by rw [hr.1] at *; simp)
        cases hq
    subst hxs
    have hn : n = 0 := by rw [e2]; rfl
    subst hn
    refine Calls.mono (show Calls Try.prog 88 _ _ _ from Go.Proofs.Any.slices_Compact_int_empty layCompI none c W) ?_
    rintro e' w' ⟨rfl, rfl⟩
    exact ⟨rfl, h, rfl, rfl, rfl, Nat.le_refl _, fun _ _ _ => rfl⟩
  | some ad =>
    obtain ⟨g, rfl⟩ := Kd.R_head h
    refine (compact_I h).mono ?_
    rintro e' w' ⟨rfl, h1, h2, h3, h4, h5⟩
    exact ⟨rfl, h1, grown_keep h2 h3 h4 h5⟩
end Go.Proofs.Ytffflhmblelegaa.F
