/-
A row that a call owns, sorted in place: what is known of it behind the sort (whatever its elements are).
-/
import Derived.Test.YtffflhmblelegaaF0
import Derived.Shelf.SlSortCmp.WholeK
namespace Go.Proofs.Ytffflhmblelegaa.F
open Go.RowKit Go.Proofs.YtffflhmblelegaaW.PrintWords Go.Proofs.YtffflhmblelegaaW.PrintLast Go.Proofs.YtffflhmblelegaaW.PrintMore
section
variable {α : Type} {d : Kd α} {e g n cap base : Nat} {ok : Nat → Prop} {W w1 : World} {xs : List α}
/-- What a row of the call's own is, in memory. -/
theorem R_unf (h : d.R e W base ok (.slice (some ⟨g, 0, none⟩) n cap) xs) : ∃ cur : Array Value, ok g ∧ base ≤ g ∧ n = xs.length ∧ W.heap[g]? = some (.cells cur e (0, 0)) ∧ n ≤ cap ∧ cap ≤ maxLen ∧ cur.size = cap * d.sz ∧
    Reps (d.M W base (fun k => ok k ∧ some k ≠ some g)) d.sz xs (cur.toList.take (n * d.sz)) := by
  obtain ⟨hok, inner, ⟨hlen, hrow⟩, hrep⟩ := h
  rcases hrow with ⟨hv, _⟩ | ⟨g', cap', cur, hv, hb, hh, h1, h2, h3, h4⟩
  · cases hv
  · injection hv with ha hn hc
    injection ha with ha
    injection ha with hg _ _
    subst hg; subst hc
    subst h4
    refine ⟨cur, hok g rfl, hb, hn, hh, by omega, h2, h3, ?_⟩
    rw [hn]
    exact hrep
/-- The same elements in another order. -/
theorem R_perm (h : d.R e W base ok (.slice (some ⟨g, 0, none⟩) n cap) xs) (hk : KeepBut W w1 g none) {cur cur' : Array Value} (hb : W.heap[g]? = some (.cells cur e (0, 0))) (hb' : w1.heap[g]? = some (.cells cur' e (0, 0))) (hs : cur'.size = cur.size)
    (is : List Nat) (hl : is.length = n) (hi : ∀ i ∈ is, i < n) {z : α} (hc : ∀ j i, is[j]? = some i → ((cur'.toList.take (n * d.sz)).drop (j * d.sz)).take d.sz = ((cur.toList.take (n * d.sz)).drop (i * d.sz)).take d.sz) :
    d.R e w1 base ok (.slice (some ⟨g, 0, none⟩) n cap) (is.map (fun i => xs.getD i z)) := by
  obtain ⟨cur0, h1, h2, h3, h4, h5, h6, h7, h8⟩ := R_unf h
  rw [hb] at h4
  injection h4 with h4
  injection h4 with h4
  subst h4
  have hmov : ∀ {x cs}, d.M W base (fun k => ok k ∧ some k ≠ some g) x cs → d.M w1 base (fun k => ok k ∧ some k ≠ some g) x cs := fun hM =>
    d.M_mono (fun k hk => hk.1) (d.M_move (fun k hko => hk.2 k hko.2.2.1 (fun e => hko.1.2 (by rw [e])) (by simp)) (d.M_bound hM))
  refine ⟨fun k hkk => by have : g = k := by simpa [Value.ownBlock] using hkk
                          subst this; exact h1, cur'.toList.take (n * d.sz), ⟨?_, Or.inr ⟨g, cap, cur', ?_, h2, hb', ?_, h6, ?_, ?_⟩⟩, ?_⟩
  · rw [List.length_take, List.length_map, hl, Array.length_toList, hs, h7]
    exact Nat.min_eq_left (Nat.mul_le_mul_right _ h5)
  · rw [List.length_map, hl]
  · rw [List.length_map, hl]; exact h5
  · rw [hs, h7]
  · rw [List.length_map, hl]
  · refine ⟨?_, fun j p hp => ?_⟩
    · rw [List.length_take, List.length_map, hl, Array.length_toList, hs, h7]
      exact Nat.min_eq_left (Nat.mul_le_mul_right _ h5)
    · rw [List.getElem?_map, Option.map_eq_some_iff] at hp
      obtain ⟨i, hij, rfl⟩ := hp
      have hin := hi i (List.mem_of_getElem? hij)
      rw [hc j i hij]
      have hx : xs[i]? = some (xs.getD i z) := by
        rw [List.getD_eq_getElem?_getD, List.getElem?_eq_getElem (by omega)]
        rfl
      exact hmov (h8.2 i _ hx)
end
open Go.Sort (SWO SortedIn PermIn HoldsK flatK putRowK Holds)
/-- The cells of one element. -/
def encI (z : Nat) (inner : List Value) {n : Nat} (i : Fin n) : List Value := (inner.drop (i.val * z)).take z
theorem encI_length {z n : Nat} {inner : List Value} (h : inner.length = n * z) (i : Fin n) : (encI z inner i).length = z := by
  unfold encI
  rw [List.length_take, List.length_drop, h]
  have := Nat.mul_le_mul_right z (show i.val + 1 ≤ n from i.isLt)
  rw [Nat.add_mul, Nat.one_mul] at this
  omega
theorem flat_cell {z n : Nat} {inner : List Value} (h : inner.length = n * z) (D : Array (Fin n)) (hD : D.size = n) [Inhabited (Fin n)] (t : Nat) (ht : t < n * z) :
    (flatK (encI z inner) z D)[t]! = inner.getD ((D[t / z]!).val * z + t % z) default := by
  have hz : 0 < z := Nat.pos_of_ne_zero (fun e => by rw [e] at ht; simp at ht)
  rw [Go.Sort.get_flatK _ _ _ _ (by rw [hD]; exact ht)]
  have hl := encI_length h (D[t / z]!)
  have hm := Nat.mod_lt t hz
  rw [List.getElem!_eq_getElem?_getD, List.getD_eq_getElem?_getD]
  congr 1
  unfold encI
  rw [List.getElem?_take, if_pos hm, List.getElem?_drop]
end Go.Proofs.Ytffflhmblelegaa.F
