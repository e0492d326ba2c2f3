/-
A row that a call owns, sorted in place: what is known of it behind the sort (whatever its elements are).
-/
import Derived.Test.YtffflhmblelegaaF0
import Derived.Shelf.SlSortCmp.WholeK
namespace Go.Proofs.Ytffflhmblelegaa.F
open Go.RowKit Go.Proofs.YtffflhmblelegaaW.PrintWords Go.Proofs.YtffflhmblelegaaW.PrintLast Go.Proofs.YtffflhmblelegaaW.PrintMore
section
variable {α : Type} {d : Kd α} {e g n cap base : Nat} {ok : Nat → Prop} {W w1 : World} {xs : List α}
/-- What a row of the call's own is, in memory. -/
theorem R_unf (h : d.R e W base ok (.slice (some ⟨g, 0, none⟩) n cap) xs) : ∃ cur : Array Value, ok g ∧ base ≤ g ∧ n = xs.length ∧ W.heap[g]? = some (.cells cur e (0, 0)) ∧ n ≤ cap ∧ cap ≤ maxLen ∧ cur.size = cap * d.sz ∧
    Reps (d.M W base (fun k => ok k ∧ some k ≠ some g)) d.sz xs (cur.toList.take (n * d.sz)) := by
  obtain ⟨hok, inner, ⟨hlen, hrow⟩, hrep⟩ := h
  rcases hrow with ⟨hv, _⟩ | ⟨g', cap', cur, hv, hb, hh, h1, h2, h3, h4⟩
  · cases hv
  · injection hv with ha hn hc
    injection ha with ha
    injection ha with hg _ _
    subst hg; subst hc
    subst h4
    refine ⟨cur, hok g rfl, hb, hn, hh, by omega, h2, h3, ?_⟩
    rw [hn]
    exact hrep
/-- The same elements in another order. -/
theorem R_perm (h : d.R e W base ok (.slice (some ⟨g, 0, none⟩) n cap) xs) (hk : KeepBut W w1 g none) {cur cur' : Array Value} (hb : W.heap[g]? = some (.cells cur e (0, 0))) (hb' : w1.heap[g]? = some (.cells cur' e (0, 0))) (hs : cur'.size = cur.size)
    (is : List Nat) (hl : is.length = n) (hi : ∀ i ∈ is, i < n) {z : α} (hc : ∀ j i, is[j]? = some i → ((cur'.toList.take (n * d.sz)).drop (j * d.sz)).take d.sz = ((cur.toList.take (n * d.sz)).drop (i * d.sz)).take d.sz) :
    d.R e w1 base ok (.slice (some ⟨g, 0, none⟩) n cap) (is.map (fun i => xs.getD i z)) := by
  obtain ⟨cur0, h1, h2, h3, h4, h5, h6, h7, h8⟩ := R_unf h
  rw [hb] at h4
  injection h4 with h4
  injection h4 with h4
  subst h4
  have hmov : ∀ {x cs}, d.M W base (fun k => ok k ∧ some k ≠ some g) x cs → d.M w1 base (fun k => ok k ∧ some k ≠ some g) x cs := fun hM =>
    d.M_mono (fun k hk => hk.1) (d.M_move (fun k hko => hk.2 k hko.2.2.1 (fun e => hko.1.2 (by rw [e])) (by simp)) (d.M_bound hM))
  refine ⟨fun k hkk => by have : g = k := by simpa [Value.ownBlock] using hkk
                          subst this; exact h1, cur'.toList.take (n * d.sz), ⟨?_, Or.inr ⟨g, cap, cur', ?_, h2, hb', ?_, h6, ?_, ?_⟩⟩, ?_⟩
  · rw [List.length_take, List.length_map, hl, Array.length_toList, hs, h7]
    exact Nat.min_eq_left (Nat.mul_le_mul_right _ h5)
  · rw [List.length_map, hl]
  · rw [List.length_map, hl]; exact h5
  · rw [hs, h7]
  · rw [List.length_map, hl]
  · refine ⟨?_, fun j p hp => ?_⟩
    · rw [List.length_take, List.length_map, hl, Array.length_toList, hs, h7]
      exact Nat.min_eq_left (Nat.mul_le_mul_right _ h5)
    · rw [List.getElem?_map, Option.map_eq_some_iff] at hp
      obtain ⟨i, hij, rfl⟩ := hp
      have hin := hi i (List.mem_of_getElem? hij)
      rw [hc j i hij]
      have hx : xs[i]? = some (xs.getD i z) := by
        rw [List.getD_eq_getElem?_getD, List.getElem?_eq_getElem (by omega)]
        rfl
      exact hmov (h8.2 i _ hx)
end
open Go.Sort (SWO SortedIn PermIn HoldsK flatK putRowK Holds)
/-- The cells of one element. -/
def encI (z : Nat) (inner : List Value) {n : Nat} (i : Fin n) : List Value := (inner.drop (i.val * z)).take z
theorem encI_length {z n : Nat} {inner : List Value} (h : inner.length = n * z) (i : Fin n) : (encI z inner i).length = z := by
  unfold encI
  rw [List.length_take, List.length_drop, h]
  have := Nat.mul_le_mul_right z (show i.val + 1 ≤ n from i.isLt)
  rw [Nat.add_mul, Nat.one_mul] at this
  omega
theorem flat_cell {z n : Nat} {inner : List Value} (h : inner.length = n * z) (D : Array (Fin n)) (hD : D.size = n) [Inhabited (Fin n)] (t : Nat) (ht : t < n * z) :
    (flatK (encI z inner) z D)[t]! = inner.getD ((D[t / z]!).val * z + t % z) default := by
  have hz : 0 < z := Nat.pos_of_ne_zero (fun e => by rw [e] at ht; simp at ht)
  rw [Go.Sort.get_flatK _ _ _ _ (by rw [hD]; exact ht)]
  have hl := encI_length h (D[t / z]!)
  have hm := Nat.mod_lt t hz
  rw [List.getElem!_eq_getElem?_getD, List.getD_eq_getElem?_getD]
  congr 1
  unfold encI
  rw [List.getElem?_take, if_pos hm, List.getElem?_drop]
theorem put_cells {cur : Array Value} {z n : Nat} {inner : List Value} (h : inner.length = n * z) (hc : n * z ≤ cur.size) (D : Array (Fin n)) (hD : D.size = n) [Inhabited (Fin n)] {j i : Nat} (hj : (D.toList.map Fin.val)[j]? = some i) :
    (((Go.Sort.putCells id 0 (flatK (encI z inner) z D) cur).toList.take (n * z)).drop (j * z)).take z = (inner.drop (i * z)).take z := by
  have hjn : j < n := by
    have := List.getElem?_eq_some_iff.1 hj
    obtain ⟨hl, _⟩ := this
    rw [List.length_map, Array.length_toList, hD] at hl
    exact hl
  have hin : i < n := by
    obtain ⟨x, _, rfl⟩ := List.mem_map.1 (List.mem_of_getElem? hj)
    exact x.isLt
  have hDj : (D[j]!).val = i := by
    rw [List.getElem?_map, Array.getElem?_toList, Option.map_eq_some_iff] at hj
    obtain ⟨x, hx, rfl⟩ := hj
    rw [getElem!_def, hx]
  have e1 := Nat.mul_le_mul_right z (show j + 1 ≤ n from hjn)
  have e2 := Nat.mul_le_mul_right z (show i + 1 ≤ n from hin)
  rw [Nat.add_mul, Nat.one_mul] at e1 e2
  refine List.ext_getElem? (fun c => ?_)
  by_cases hcz : c < z
  · rw [List.getElem?_take, if_pos hcz, List.getElem?_take, if_pos hcz, List.getElem?_drop, List.getElem?_drop, List.getElem?_take, if_pos (by omega), Array.getElem?_toList]
    have hlt : j * z + c < n * z := by omega
    have e3 : (j * z + c) / z = j := by rw [Nat.mul_comm, Nat.mul_add_div (by omega), Nat.div_eq_of_lt hcz, Nat.add_zero]
    have e4 : (j * z + c) % z = c := by rw [Nat.mul_comm, Nat.mul_add_mod, Nat.mod_eq_of_lt hcz]
    unfold Go.Sort.putCells
    rw [Array.getElem?_mapIdx, Array.getElem?_eq_getElem (by omega), Option.map_some, if_pos ⟨Nat.zero_le _, by rw [Go.Sort.size_flatK, hD]; omega⟩, Nat.sub_zero, id, flat_cell h D hD _ hlt, e3, e4, hDj, List.getD_eq_getElem?_getD, List.getElem?_eq_getElem (by omega)]
    rfl
  · rw [List.getElem?_take, if_neg hcz, List.getElem?_take, if_neg hcz]
section
variable {α : Type} {d : Kd α} {e g n cap base : Nat} {ok : Nat → Prop} {W : World} {xs : List α}
set_option maxHeartbeats 1000000 in
/-- slices.SortFunc, at a row of the call's own whose elements are structs. -/
theorem sort_row {ρ : Go.Shelf.Ren} (L : Go.Proofs.SlLaysF0.n6 Try.prog ρ) (z : α) (aE : ∀ w, (isAgg (ρ.t 24)).run Try.prog w = .ok true w) (zE : ∀ w, (Go.sizeOf (ρ.t 24)).run Try.prog w = .ok d.sz w)
    (C : α → α → Int) (hO : SWO (Go.Proofs.ltOf C)) (G : FuncId) (eg : ∀ args w, (callFunc G args).run Try.prog w = .ok (.enter G args) w)
    (hC : ∀ (x y : α) (cx cy : List Value) (w0 : World), d.K w0 x cx → d.K w0 y cy → ∀ W', Calls Try.prog G #[.agg cx.toArray, .agg cy.toArray] W' fun e w' => e = .returned (.int .i64 (C x y)) ∧ ∃ q os, w' = Go.Sort.grow (W'.drewN q) os)
    (h : d.R e W base ok (.slice (some ⟨g, 0, none⟩) n cap) xs) (hn : 0 < n) (hm : n < 4611686018427387904) :
    Calls Try.prog (ρ.f 6) #[.slice (some ⟨g, 0, none⟩) n cap, .func (.func G) #[] #[]] W fun e' w' => e' = .returned (.tuple #[]) ∧ ∃ ys : List α, ys.Perm xs ∧ ys.Pairwise (fun a b => ¬ C b a < 0) ∧ d.R e w' base ok (.slice (some ⟨g, 0, none⟩) n cap) ys ∧ KeepBut W w' g none ∧ w'.os = W.os ∧ w'.tape = W.tape ∧ w'.output = W.output := by
  obtain ⟨cur, _, _, h3, h4, h5, h6, h7, h8⟩ := R_unf h
  have hsz : n * d.sz ≤ cur.size := by rw [h7]; exact Nat.mul_le_mul_right _ h5
  generalize hinn : cur.toList.take (n * d.sz) = inner at h8
  have hil : inner.length = n * d.sz := by rw [← hinn, List.length_take, Array.length_toList]; omega
  haveI : Inhabited (Fin n) := ⟨⟨0, hn⟩⟩
  have hK : ∀ i : Fin n, d.K W (xs.getD i.val z) (encI d.sz inner i) := fun i => by
    have hx : xs[i.val]? = some (xs.getD i.val z) := by rw [List.getD_eq_getElem?_getD, List.getElem?_eq_getElem (by omega)]; rfl
    exact d.K_of_M (h8.2 _ _ hx)
  let d0 : Array (Fin n) := Array.ofFn (fun i => i)
  have hd0 : d0.size = n := by simp [d0]
  have hd0l : d0.toList.map Fin.val = List.range n := by
    refine List.ext_getElem (by simp [d0]) (fun i _ _ => ?_)
    simp [d0]
  have hH : HoldsK (encI d.sz inner) d.sz W g 0 d0 := by
    intro j hj
    rw [Go.Sort.size_flatK, hd0] at hj
    refine ⟨?_, by simp [World.frozen?, h4]⟩
    have e0 : (d0[j / d.sz]!).val = j / d.sz := by
      have hz : 0 < d.sz := Nat.pos_of_ne_zero (fun e => by rw [e] at hj; simp at hj)
      have : j / d.sz < n := Nat.div_lt_of_lt_mul (by rw [Nat.mul_comm]; exact hj)
      rw [getElem!_pos d0 _ (by rw [hd0]; exact this)]
      simp [d0]
    rw [flat_cell hil d0 hd0 j hj, e0, show j / d.sz * d.sz + j % d.sz = j by rw [Nat.mul_comm]; exact Nat.div_add_mod _ _, id]
    simp only [World.cell?, h4, Nat.zero_add, Option.isSome_none, Bool.false_eq_true, if_false]
    rw [← hinn, List.getD_eq_getElem?_getD, List.getElem?_take, if_pos hj, Array.getElem?_toList, Array.getElem?_eq_getElem (by omega)]
    rfl
  have hO' : SWO (Go.Proofs.ltOf (fun i j : Fin n => C (xs.getD i.val z) (xs.getD j.val z))) := ⟨fun x => hO.irrefl _, fun x y u => hO.trans _ _ _, fun x y u => hO.ntrans _ _ _⟩
  have hcon := Go.Proofs.AnyQ.slices_SortFunc L d.sz aE zE (encI d.sz inner) (encI_length hil) (fun x v hv => d.K_one (hK x) v hv) (fun i j => C (xs.getD i.val z) (xs.getD j.val z)) hO' G #[] g 0 cap d0 W eg
    (fun m os dk _ x y => hC _ _ _ _ W (hK x) (hK y) _) hH (blk_lt h4) (by rw [hd0]; exact hm)
  rw [hd0] at hcon
  refine hcon.mono ?_
  rintro e' w' ⟨rfl, D, m, os, hp, hs, rfl⟩
  obtain ⟨hp1, _, hp3⟩ := hp
  have hDn : D.size = n := by rw [hp1, hd0]
  have hperm : (D.toList.map Fin.val).Perm (List.range n) := by
    rw [← hd0l]
    refine List.Perm.map _ ?_
    have a1 : ∀ (m : Nat) (A : Array (Fin n)), A.size = m → (A.extract 0 m).toList = A.toList := fun m A hA => by subst hA; simp
    rwa [a1 n D hDn, a1 n d0 hd0] at hp3
  have hxs : (List.range n).map (fun i => xs.getD i z) = xs := by
    refine List.ext_getElem (by simp [h3]) (fun i _ h2 => ?_)
    rw [List.getElem_map, List.getElem_range, List.getD_eq_getElem?_getD, List.getElem?_eq_getElem h2]
    rfl
  have hb' : (Go.Proofs.sortWorldK (encI d.sz inner) d.sz W g 0 m D os).heap[g]? = some (.cells (Go.Sort.putCells id 0 (flatK (encI d.sz inner) d.sz D) cur) e (0, 0)) := by
    unfold Go.Proofs.sortWorldK Go.Sort.grow Go.Sort.putRowK Go.Sort.putRow Go.Sort.mapBlock
    have hlt := blk_lt h4
    simp only [Go.Sort.heap_ahead]
    rw [Array.getElem?_append_left (by simpa using hlt), Array.getElem?_modify, if_pos rfl, h4]
    rfl
  have hk : KeepBut W (Go.Proofs.sortWorldK (encI d.sz inner) d.sz W g 0 m D os) g none := by
    unfold Go.Proofs.sortWorldK Go.Sort.grow Go.Sort.putRowK Go.Sort.putRow Go.Sort.mapBlock
    refine ⟨by simp, fun i hi hne _ => ?_⟩
    simp only [Go.Sort.heap_ahead]
    rw [Array.getElem?_append_left (by simpa using hi), Array.getElem?_modify, if_neg (fun e => hne e.symm)]
  refine ⟨rfl, (D.toList.map Fin.val).map (fun i => xs.getD i z), ?_, ?_, ?_, hk, rfl, rfl, rfl⟩
  · have := hperm.map (fun i => xs.getD i z)
    rwa [hxs] at this
  · rw [List.map_map, List.pairwise_map, List.pairwise_iff_getElem]
    intro i j hi hj hij
    have := hs i j (Nat.zero_le _) hij (by rw [Array.length_toList, hDn] at hj; exact hj)
    unfold Go.Proofs.ltOf at this
    rw [getElem!_pos D _ (by rw [Array.length_toList] at hj; exact hj), getElem!_pos D _ (by rw [Array.length_toList] at hi; exact hi)] at this
    exact of_decide_eq_false this
  · refine R_perm h hk h4 hb' (by unfold Go.Sort.putCells; simp) (D.toList.map Fin.val) (by rw [List.length_map, Array.length_toList, hDn]) (fun i hi => ?_) (fun j i hji => ?_)
    · exact List.mem_range.1 (hperm.subset hi)
    · rw [hinn]
      exact put_cells hil hsz D hDn hji
end
end Go.Proofs.Ytffflhmblelegaa.F
