/-
A row of the call's own with elements of one cell (rows, numbers), sorted in place by slices.SortFunc: what is known of it behind the sort.
-/
import Derived.Test.YtffflhmblelegaaXSort
import Derived.Shelf.SlSortCmp.Whole1
namespace Go.Proofs.Ytffflhmblelegaa.F
open Go.RowKit Go.Proofs.YtffflhmblelegaaW.PrintWords Go.Proofs.YtffflhmblelegaaW.PrintLast Go.Proofs.YtffflhmblelegaaW.PrintMore
open Go.Sort (SWO SortedIn PermIn Holds)
section
variable {α : Type} {d : Kd α} {e g n cap base : Nat} {ok : Nat → Prop} {W : World} {xs : List α}
theorem put_one {cur : Array Value} {n : Nat} (hc : n ≤ cur.size) (enc : Fin n → Value) (henc : ∀ i : Fin n, cur[i.val]? = some (enc i)) (D : Array (Fin n)) (hD : D.size = n) [Inhabited (Fin n)] {j i : Nat} (hj : (D.toList.map Fin.val)[j]? = some i) :
    (((Go.Sort.putCells enc 0 D cur).toList.take (n * 1)).drop (j * 1)).take 1 = ((cur.toList.take (n * 1)).drop (i * 1)).take 1 := by
  have hjn : j < n := by
    obtain ⟨hl, _⟩ := List.getElem?_eq_some_iff.1 hj
    rw [List.length_map, Array.length_toList, hD] at hl
    exact hl
  have hDj : ∃ x : Fin n, D[j]! = x ∧ x.val = i := by
    rw [List.getElem?_map, Array.getElem?_toList, Option.map_eq_some_iff] at hj
    obtain ⟨x, hx, rfl⟩ := hj
    exact ⟨x, by rw [getElem!_def, hx], rfl⟩
  obtain ⟨x, hx, rfl⟩ := hDj
  have hin := x.isLt
  refine List.ext_getElem? (fun c => ?_)
  by_cases hcz : c < 1
  · obtain rfl : c = 0 := by omega
    rw [List.getElem?_take, if_pos hcz, List.getElem?_take, if_pos hcz, List.getElem?_drop, List.getElem?_drop, List.getElem?_take, if_pos (by omega), List.getElem?_take, if_pos (by omega), Array.getElem?_toList, Array.getElem?_toList]
    simp only [Nat.mul_one, Nat.add_zero]
    unfold Go.Sort.putCells
    rw [Array.getElem?_mapIdx, Array.getElem?_eq_getElem (by omega), Option.map_some, if_pos ⟨Nat.zero_le _, by omega⟩, Nat.sub_zero, hx, henc x]
  · rw [List.getElem?_take, if_neg hcz, List.getElem?_take, if_neg hcz]
set_option maxHeartbeats 1000000 in
/-- slices.SortFunc, at a row whose elements take one cell. -/
theorem sort_one {ρ : Go.Shelf.Ren} (L : Go.Proofs.SlLaysF.n6 Try.prog ρ) (z : α) (hd : d.sz = 1) (C : α → α → Int) (hO : SWO (Go.Proofs.ltOf C)) (G : FuncId) (eg : ∀ args w, (callFunc G args).run Try.prog w = .ok (.enter G args) w)
    (hC : ∀ (x y : α), x ∈ xs → y ∈ xs → ∀ (cx cy : Value) (W' : World), d.K W' x [cx] → d.K W' y [cy] → Calls Try.prog G #[cx, cy] W' fun e w' => e = .returned (.int .i64 (C x y)) ∧ ∃ q os, w' = Go.Sort.grow (W'.drewN q) os)
    (h : d.R e W base ok (.slice (some ⟨g, 0, none⟩) n cap) xs) (hn : 0 < n) (hm : n < 4611686018427387904) :
    Calls Try.prog (ρ.f 6) #[.slice (some ⟨g, 0, none⟩) n cap, .func (.func G) #[] #[]] W fun e' w' => e' = .returned (.tuple #[]) ∧ ∃ is : List Nat, is.Perm (List.range n) ∧ (is.map (fun i => xs.getD i z)).Pairwise (fun a b => ¬ C b a < 0) ∧ d.R e w' base ok (.slice (some ⟨g, 0, none⟩) n cap) (is.map (fun i => xs.getD i z)) ∧ KeepBut W w' g none ∧ w'.os = W.os ∧ w'.tape = W.tape ∧ w'.output = W.output := by
  obtain ⟨cur, _, _, h3, h4, h5, h6, h7, h8⟩ := R_unf h
  rw [hd] at h7 h8
  have hsz : n ≤ cur.size := by omega
  haveI : Inhabited (Fin n) := ⟨⟨0, hn⟩⟩
  let enc : Fin n → Value := fun i => cur[i.val]'(by have := i.isLt; omega)
  have henc : ∀ i : Fin n, cur[i.val]? = some (enc i) := fun i => Array.getElem?_eq_getElem _
  have hcell : ∀ i : Fin n, ((cur.toList.take (n * 1)).drop (i.val * 1)).take 1 = [enc i] := fun i => by
    have hi := i.isLt
    refine List.ext_getElem? (fun c => ?_)
    by_cases hcz : c < 1
    · obtain rfl : c = 0 := by omega
      rw [List.getElem?_take, if_pos hcz, List.getElem?_drop, List.getElem?_take, if_pos (by omega), Array.getElem?_toList, Nat.mul_one, Nat.add_zero, henc i]
      rfl
    · rw [List.getElem?_take, if_neg hcz, List.getElem?_eq_none (by simp; omega)]
  have hM : ∀ i : Fin n, d.M W base (fun k => ok k ∧ some k ≠ some g) (xs.getD i.val z) [enc i] := fun i => by
    have hi := i.isLt
    have hx : xs[i.val]? = some (xs.getD i.val z) := by rw [List.getD_eq_getElem?_getD, List.getElem?_eq_getElem (by omega)]; rfl
    have := h8.2 _ _ hx
    rwa [hcell i] at this
  have hmem : ∀ i : Fin n, xs.getD i.val z ∈ xs := fun i => by
    have hi := i.isLt
    rw [List.getD_eq_getElem?_getD, List.getElem?_eq_getElem (by omega)]
    exact List.getElem_mem _
  let d0 : Array (Fin n) := Array.ofFn (fun i => i)
  have hd0 : d0.size = n := by simp [d0]
  have hd0l : d0.toList.map Fin.val = List.range n := by
    refine List.ext_getElem (by simp [d0]) (fun i _ _ => ?_)
    simp [d0]
  have hH : Holds enc W g 0 d0 := by
    intro j hj
    rw [hd0] at hj
    refine ⟨?_, by simp [World.frozen?, h4]⟩
    have e0 : d0[j]! = ⟨j, hj⟩ := by rw [getElem!_pos d0 _ (by rw [hd0]; exact hj)]; simp [d0]
    rw [e0]
    simp only [World.cell?, h4, Nat.zero_add, Option.isSome_none, Bool.false_eq_true, if_false]
    exact henc ⟨j, hj⟩
  have hone : ∀ i : Fin n, (enc i).oneCell' = true := fun i => d.K_one (d.K_of_M (hM i)) _ (List.mem_singleton.2 rfl)
  have hkeep : ∀ (m : Nat) (os : Array Obj) (D : Array (Fin n)), KeepBut W (Go.Proofs.sortWorld enc W g 0 m D os) g none := fun m os D => by
    unfold Go.Proofs.sortWorld Go.Sort.grow Go.Sort.putRow Go.Sort.mapBlock
    refine ⟨by simp, fun i hi hne _ => ?_⟩
    simp only [Go.Sort.heap_ahead]
    rw [Array.getElem?_append_left (by simpa using hi), Array.getElem?_modify, if_neg (fun e => hne e.symm)]
  have hmov : ∀ {w1 : World}, KeepBut W w1 g none → ∀ {x cs}, d.M W base (fun k => ok k ∧ some k ≠ some g) x cs → d.K w1 x cs := fun hk _ _ hF =>
    d.K_of_M (d.M_move (fun k hko => hk.2 k hko.2.2.1 (fun e => hko.1.2 (by rw [e])) (by simp)) (d.M_bound hF))
  have hO' : SWO (Go.Proofs.ltOf (fun i j : Fin n => C (xs.getD i.val z) (xs.getD j.val z))) := ⟨fun x => hO.irrefl _, fun x y u => hO.trans _ _ _, fun x y u => hO.ntrans _ _ _⟩
  have hcon := Go.Proofs.Any.slices_SortFunc L enc hone (fun i j => C (xs.getD i.val z) (xs.getD j.val z)) hO' G #[] g 0 cap d0 W eg
    (fun m os dk _ x y => hC _ _ (hmem x) (hmem y) (enc x) (enc y) _ (hmov (hkeep m os dk) (hM x)) (hmov (hkeep m os dk) (hM y))) hH (blk_lt h4) (by rw [hd0]; exact hm)
  rw [hd0] at hcon
  refine hcon.mono ?_
  rintro e' w' ⟨rfl, D, m, os, hp, hs, rfl⟩
  obtain ⟨hp1, _, hp3⟩ := hp
  have hDn : D.size = n := by rw [hp1, hd0]
  have hperm : (D.toList.map Fin.val).Perm (List.range n) := by
    rw [← hd0l]
    refine List.Perm.map _ ?_
    have a1 : ∀ (m : Nat) (A : Array (Fin n)), A.size = m → (A.extract 0 m).toList = A.toList := fun m A hA => by subst hA; simp
    rwa [a1 n D hDn, a1 n d0 hd0] at hp3
  have hb' : (Go.Proofs.sortWorld enc W g 0 m D os).heap[g]? = some (.cells (Go.Sort.putCells enc 0 D cur) e (0, 0)) := by
    unfold Go.Proofs.sortWorld Go.Sort.grow Go.Sort.putRow Go.Sort.mapBlock
    have hlt := blk_lt h4
    simp only [Go.Sort.heap_ahead]
    rw [Array.getElem?_append_left (by simpa using hlt), Array.getElem?_modify, if_pos rfl, h4]
    rfl
  have hk := hkeep m os D
  refine ⟨rfl, D.toList.map Fin.val, hperm, ?_, ?_, hk, rfl, rfl, rfl⟩
  · rw [List.map_map, List.pairwise_map, List.pairwise_iff_getElem]
    intro i j hi hj hij
    have := hs i j (Nat.zero_le _) hij (by rw [Array.length_toList, hDn] at hj; exact hj)
    unfold Go.Proofs.ltOf at this
    rw [getElem!_pos D _ (by rw [Array.length_toList] at hj; exact hj), getElem!_pos D _ (by rw [Array.length_toList] at hi; exact hi)] at this
    exact of_decide_eq_false this
  · refine R_perm h hk h4 hb' (by unfold Go.Sort.putCells; simp) (D.toList.map Fin.val) (by rw [List.length_map, Array.length_toList, hDn]) (fun i hi => List.mem_range.1 (hperm.subset hi)) (fun j i hji => ?_)
    rw [hd]
    exact put_one hsz enc henc D hDn hji
theorem idx_unique : ∀ {is : List Nat}, is.Nodup → ∀ {j j' a : Nat}, is[j]? = some a → is[j']? = some a → j = j' := fun {is} hn {j j' a} h h' => by
  obtain ⟨hj, e⟩ := List.getElem?_eq_some_iff.1 h
  obtain ⟨hj', e'⟩ := List.getElem?_eq_some_iff.1 h'
  unfold List.Nodup at hn
  rw [List.pairwise_iff_getElem] at hn
  rcases Nat.lt_trichotomy j j' with k | k | k
  · exact absurd (e.trans e'.symm) (hn j j' hj hj' k)
  · exact k
  · exact absurd (e'.trans e.symm) (hn j' j hj' hj k)
/-- slices.SortFunc, at a row whose elements lie apart. -/
theorem sort_S {ρ : Go.Shelf.Ren} (L : Go.Proofs.SlLaysF.n6 Try.prog ρ) (z : α) (hd : d.sz = 1) (C : α → α → Int) (hO : SWO (Go.Proofs.ltOf C)) (G : FuncId) (eg : ∀ args w, (callFunc G args).run Try.prog w = .ok (.enter G args) w)
    (hC : ∀ (x y : α), x ∈ xs → y ∈ xs → ∀ (cx cy : Value) (W' : World), d.K W' x [cx] → d.K W' y [cy] → Calls Try.prog G #[cx, cy] W' fun e w' => e = .returned (.int .i64 (C x y)) ∧ ∃ q os, w' = Go.Sort.grow (W'.drewN q) os)
    (h : Kd.S d e W base ok (.slice (some ⟨g, 0, none⟩) n cap) xs) (hn : 0 < n) (hm : n < 4611686018427387904) :
    Calls Try.prog (ρ.f 6) #[.slice (some ⟨g, 0, none⟩) n cap, .func (.func G) #[] #[]] W fun e' w' => e' = .returned (.tuple #[]) ∧ ∃ ys : List α, ys.Perm xs ∧ ys.Pairwise (fun a b => ¬ C b a < 0) ∧ Kd.S d e w' base ok (.slice (some ⟨g, 0, none⟩) n cap) ys ∧ KeepBut W w' g none ∧ w'.os = W.os ∧ w'.tape = W.tape ∧ w'.output = W.output := by
  obtain ⟨f, h⟩ := h
  obtain ⟨_, _, _, h3, _⟩ := R_unf h
  rw [List.length_zipIdx] at h3
  have hcon := sort_one L (z, 0) (d := Kd.tag f d) hd (fun p q => C p.1 q.1) ⟨fun x => hO.irrefl _, fun x y u => hO.trans _ _ _, fun x y u => hO.ntrans _ _ _⟩ G eg (fun x y hx0 hy0 cx cy W' hx hy => hC x.1 y.1 (List.fst_mem_of_mem_zipIdx hx0) (List.fst_mem_of_mem_zipIdx hy0) cx cy W' hx hy) h hn hm
  refine hcon.mono ?_
  rintro e' w' ⟨rfl, is, hp, hs, hR, hk, h4, h5, h6⟩
  have hget : ∀ i ∈ is, xs.zipIdx.getD i (z, 0) = (xs.getD i z, i) := fun i hi => by
    have hin := List.mem_range.1 (hp.subset hi)
    rw [List.getD_eq_getElem?_getD, List.getElem?_zipIdx, List.getElem?_eq_getElem (by omega), List.getD_eq_getElem?_getD, List.getElem?_eq_getElem (by omega)]
    simp
  have hmap : is.map (fun i => xs.zipIdx.getD i (z, 0)) = is.map (fun i => (xs.getD i z, i)) := List.map_congr_left hget
  rw [hmap] at hs hR
  have hxs : (List.range n).map (fun i => xs.getD i z) = xs := by
    refine List.ext_getElem (by simp; omega) (fun i _ h2 => ?_)
    rw [List.getElem_map, List.getElem_range, List.getD_eq_getElem?_getD, List.getElem?_eq_getElem h2]
    rfl
  have hnd : is.Nodup := hp.nodup_iff.2 List.nodup_range
  refine ⟨rfl, is.map (fun i => xs.getD i z), ?_, ?_, ?_, hk, h4, h5, h6⟩
  · have := hp.map (fun i => xs.getD i z)
    rwa [hxs] at this
  · rw [List.pairwise_map] at hs ⊢
    exact hs
  · obtain ⟨k1, inner, ho, hr1, hr2⟩ := hR
    rw [List.length_map] at ho hr1
    refine ⟨fun k => is.idxOf (f k), k1, inner, ?_, ?_, fun j p hj => ?_⟩
    · rw [List.length_zipIdx, List.length_map]; exact ho
    · rw [List.length_zipIdx, List.length_map]; exact hr1
    · rw [List.getElem?_zipIdx, List.getElem?_map, Option.map_map, Option.map_eq_some_iff] at hj
      obtain ⟨i, hi, rfl⟩ := hj
      have := hr2 j (xs.getD i z, i) (by rw [List.getElem?_map, hi]; rfl)
      refine d.M_mono (fun k hko => ⟨hko.1, ?_⟩) this
      have hfi : f k = i := hko.2
      show is.idxOf (f k) = 0 + j
      rw [hfi, Nat.zero_add]
      have hmem : i ∈ is := List.mem_of_getElem? hi
      refine idx_unique hnd (a := i) ?_ hi
      rw [List.getElem?_eq_getElem (List.idxOf_lt_length_of_mem hmem)]
      exact congrArg some (List.getElem_idxOf (List.idxOf_lt_length_of_mem hmem))
end
end Go.Proofs.Ytffflhmblelegaa.F
