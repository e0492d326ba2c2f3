/-
impl.Net.all: all ways between two knots, shorter ones first, then by their knots.
-/
import Derived.Test.YtffflhmblelegaaXWays
import Derived.Test.YtffflhmblelegaaXSortR
namespace Go.Proofs.Ytffflhmblelegaa.F
open Go.RowKit Go.Proofs.YtffflhmblelegaaW.PrintWords Go.Proofs.YtffflhmblelegaaW.PrintLast Go.Proofs.YtffflhmblelegaaW.PrintMore
attribute [local go_sem] max2_int min2_int max_two min_two max_three min_three max_four min_four
set_option linter.unusedVariables false
set_option linter.unusedSimpArgs false
theorem sort_none {g cap base : Nat} {ok : Nat → Prop} {W : World} {xs : List (List Int)} (h : Kd.S (Kd.slice 3 (Kd.int .i64)) 30 W base ok (.slice (some ⟨g, 0, none⟩) 0 cap) xs) :
    Calls Try.prog 117 #[.slice (some ⟨g, 0, none⟩) 0 cap, .func (.func 118) #[] #[]] W fun e' w' => e' = .returned (.tuple #[]) ∧ Kd.S (Kd.slice 3 (Kd.int .i64)) 30 w' base ok (.slice (some ⟨g, 0, none⟩) 0 cap) (sortW xs) ∧ KeepBut W w' g none ∧ w'.os = W.os ∧ w'.tape = W.tape ∧ w'.output = W.output := by
  obtain ⟨cur, h1, _, h3, h4, _, _, h7, _⟩ := R_unf (Kd.S_R h)
  have hxs : xs = [] := List.eq_nil_of_length_eq_zero (by omega)
  subst hxs
  have hO' : Go.Sort.SWO (Go.Proofs.ltOf (fun _ _ : Unit => ordW [] [])) := ⟨fun _ => swoW.irrefl [], fun _ _ _ => swoW.trans [] [] [], fun _ _ _ => swoW.ntrans [] [] []⟩
  have hH : Go.Sort.Holds (fun _ : Unit => Value.slice none 0 0) W g 0 #[] := fun j hj => absurd hj (Nat.not_lt_zero _)
  have hcon := Go.Proofs.Any.slices_SortFunc layR (fun _ : Unit => Value.slice none 0 0) (fun _ => rfl) (fun _ _ => ordW [] []) hO' 118 #[] g 0 cap #[] W
    (fun args w => Go.Proofs.enters_of Try.func118 (by kernel_rfl) rfl args w)
    (fun m os dk _ x y => (wayOrder_gr _ none 0 [] none 0 [] _ _ (Kd.C_nil _ _) (Nat.le_refl _) (Kd.C_nil _ _) (Nat.le_refl _) (wayOrder_eq [] [] (by simp))).mono (fun e w' k => ⟨k.1, k.2.out⟩)) hH (blk_lt h4) (by decide)
  refine Calls.mono (show Calls Try.prog 117 _ _ _ from hcon) ?_
  rintro e' w' ⟨rfl, D, m, os, hp, _, rfl⟩
  have hD : D = #[] := by
    have := hp.1
    exact Array.eq_empty_of_size_eq_zero (by rw [this]; rfl)
  subst hD
  have hheap : ∀ i, i < W.heap.size → (Go.Proofs.sortWorld (fun _ : Unit => Value.slice none 0 0) W g 0 m #[] os).heap[i]? = W.heap[i]? := by
    intro i hi
    unfold Go.Proofs.sortWorld Go.Sort.grow Go.Sort.putRow Go.Sort.mapBlock
    simp only [Go.Sort.heap_ahead]
    rw [Array.getElem?_append_left (by simpa using hi), Array.getElem?_modify]
    by_cases hne : g = i
    · subst hne
      rw [if_pos rfl, h4]
      have e0 : Go.Sort.putCells (fun _ : Unit => Value.slice none 0 0) 0 #[] cur = cur := by
        unfold Go.Sort.putCells
        refine Array.ext (by simp) (fun i h1 h2 => ?_)
        rw [Array.getElem_mapIdx, if_neg (by simp)]
      show some (Obj.cells (Go.Sort.putCells (fun _ : Unit => Value.slice none 0 0) 0 #[] cur) 30) = _
      rw [e0]
    · rw [if_neg hne]
  have hk : KeepBut W (Go.Proofs.sortWorld (fun _ : Unit => Value.slice none 0 0) W g 0 m #[] os) g none := by
    refine ⟨?_, fun i hi _ _ => hheap i hi⟩
    unfold Go.Proofs.sortWorld Go.Sort.grow Go.Sort.putRow Go.Sort.mapBlock
    simp
  exact ⟨rfl, Kd.S_step h (fun k _ hk => hheap k hk), hk, rfl, rfl, rfl⟩
theorem sort_out {w W : World} {v : Value} {ok : Nat → Prop} {xs : List (List Int)} (h : Kd.S (Kd.slice 3 (Kd.int .i64)) 30 W w.heap.size ok v xs) (hO : ∃ k, v.ownBlock = some k) (HB : Below w.heap.size w W) (hm : xs.length < 4611686018427387904) (hb : ∀ x ∈ xs, x.length ≤ 1048576) :
    Calls Try.prog 117 #[v, .func (.func 118) #[] #[]] W fun e' w' => e' = .returned (.tuple #[]) ∧ Kd.S (Kd.slice 3 (Kd.int .i64)) 30 w' w.heap.size ok v (sortW xs) ∧ Below w.heap.size w w' := by
  have hbase := Kd.S_base h
  obtain ⟨A, c, rfl⟩ := Kd.S_slice h
  cases A with
  | none => obtain ⟨k, hk⟩ := hO; simp [Value.ownBlock] at hk
  | some ad =>
    obtain ⟨g, rfl⟩ := Kd.R_head (Kd.S_R h)
    have hg : w.heap.size ≤ g := hbase g rfl
    have key : ∀ (w' : World), KeepBut W w' g none → w'.os = W.os → w'.tape = W.tape → w'.output = W.output → Below w.heap.size w w' := fun w' hk h1 h2 h3 =>
      ⟨h1.trans HB.os, h2.trans HB.tape, h3.trans HB.output, Nat.le_trans HB.size hk.1, fun k hkk => (hk.2 k (Nat.lt_of_lt_of_le hkk HB.size) (by omega) (by simp)).trans (HB.block k hkk)⟩
    rcases Nat.eq_zero_or_pos xs.length with h0 | h0
    · rw [h0] at h ⊢
      refine (sort_none h).mono ?_
      rintro e' w' ⟨h1, h2, h3, h4, h5, h6⟩
      exact ⟨h1, h2, key w' h3 h4 h5 h6⟩
    · refine (sort_ways h h0 hm hb).mono ?_
      rintro e' w' ⟨h1, h2, h3, h4, h5, h6⟩
      exact ⟨h1, h2, key w' h3 h4 h5 h6⟩
def impl_Net_all.f (k : Nat) (a0_0 : Int) (l0_1 : List (S52)) (a1 : Int) (a2 : Int) : Option ((List (List Int))) := (impl_Net_ways.f k a0_0 l0_1 (([a1] : List Int)) a2 []).bind fun t => (if t.length < 4611686018427387904 ∧ ∀ x ∈ t, x.length ≤ 1048576 then some (sortW t) else none)
set_option maxHeartbeats 8000000 in
set_option maxRecDepth 100000 in
theorem impl_Net_all.calls (k : Nat) (c : Int) (n : Option Addr) (o : Nat) (a : List (S52)) (d : Int) (g : Int) (r : List (List Int)) (w : World) (z : Kd.C k52 w n a.length a) (A : a.length ≤ o) (h : impl_Net_all.f k c a d g = some r) :
  Calls Try.prog 85 #[.agg #[.int .i64 c, .slice n a.length o], .int .i64 d, .int .i64 g] w fun e w' => ∃ B : Value, e = .returned (B) ∧ Kd.S (Kd.slice 3 (Kd.int .i64)) 30 w' w.heap.size (fun _ => True) B r ∧ Below w.heap.size w w' := by
 have T := Try.underlying25; have G := am z; have I := am A; clear z A; have HB := am (Below.refl w.heap.size w)
 unfold impl_Net_all.f at h
 obtain ⟨p, q⟩ : ∃ y_ : List Int, y_ = (([d] : List Int)) := ⟨_, rfl⟩; rw [← q] at h; have D := am q; clear q
 obtain ⟨U, s⟩ : ∃ y_ : List (List Int), y_ = (([] : List (List Int))) := ⟨_, rfl⟩; rw [← s] at h; have E := am s; clear s
 obtain ⟨i, J, H⟩ := bi_ h; clear h; by_cases hc : i.length < 4611686018427387904 ∧ ∀ x ∈ i, x.length ≤ 1048576
 case neg => rw [if_neg hc] at H; cases H
 rw [if_pos hc] at H; obtain rfl := Option.some.inj H; clear H; obtain ⟨hc1, hc2⟩ := hc
 go_enter Try.func85, Try.ntmps85
 go_wp2_with (first | ((with_reducible refine gate_dst (N := 3) rfl ?_); refine bx_ 3 #[.int .i64 c, .slice n a.length o] 25 HB ?_; clear HB; intro W hg w5 hb j X HB; clear hb hg; have Y := c2 j) | ((with_reducible refine gate_dst (N := 10) rfl ?_); refine Kd.R_lit (Kd.int .i64) _ 3 ?hg (N := 10) ?hd (xs := ([d] : List Int)) (inner := [.int .i64 d]) (ok := fun _ => True) (okp := fun _ => True) ?hr ?hp (fun _ hk => hk) trivial (Below.refl _ _) (Nat.le_refl _) (by simp) ?_; (case hd => rfl); (case hg => rfl); (case hr => first | (go_simp; done) | (go_simp; rfl)); (case hp => exact (Reps.one (show Kd.M (Kd.int .i64) _ _ _ d [.int .i64 d] from rfl) (Reps.none _ _))); intro Z w7 l hb t u; clear t u; (first | rw [← D.out] at l | (simp only [Int.reduceToNat] at l; rw [← D.out] at l)); have b := am (Kd.R_lower l (below_size (bn HB))); replace j := bb j hb; replace HB := bs HB hb; clear hb l) | ((with_reducible refine gate_dst (N := 12) rfl ?_); refine Kd.S_lit (Kd.slice 3 (Kd.int .i64)) _ 30 ?hg (N := 12) ?hd (xs := ([] : List (List Int))) (inner := []) (ok := fun _ => True) (okp := fun _ => True) ?hr ?hp (fun _ hk => hk) trivial (Below.refl _ _) (Nat.le_refl _) (by simp) ?_; (case hd => rfl); (case hg => rfl); (case hr => first | (go_simp; done) | (go_simp; rfl)); (case hp => exact (Reps.none _ _)); intro aa w9 m hb t u; (first | rw [← E.out] at m | (simp only [Int.reduceToNat] at m; rw [← E.out] at m)); have x := am (Kd.S_lower (Kd.S_new' m (Kd.R_lt (onR b))) (below_size (bn HB))); have hO : ∃ k_, (aa : Value).ownBlock = some k_ := u.imp (fun _ h_ => h_.1); clear t u; replace b := am (Kd.R_below (onR b) hb); replace j := bb j hb; replace HB := bs HB hb; clear hb m; obtain ⟨K, L, O⟩ := Kd.R_slice b.out; subst O) | ((with_reducible refine gate_callee (f := 116) rfl ?_); refine gl_ (some 13) Try.func116 #[.agg #[.int .i64 c, .slice n a.length o], .slice K p.length L, .int .i64 g, aa] ?_; (with_reducible refine (impl_Net_ways.calls k c _ _ a _ _ p g aa U i w _ ?z_0 ?z_1 ?z_2 ?z_3 ?z_4 ?z_5 hO J.out).mono ?_); (case z_0 => exact bn HB); (case z_1 => exact G.out); (case z_2 => exact I.out); (case z_3 => exact fun W_ hk_ => krow (onR b) hk_); (case z_4 => exact (Kd.R_reads' b.out).2.1); (case z_5 => exact Kd.S_mono (onS x) (fun _ hk => trivial)); clear hO; rintro e w12 ⟨ab, rfl, y, hb, hk_, hO⟩; refine ⟨_, rfl, ?_⟩; have P := am y; replace j := kbk j hk_; replace HB := am hb; clear b x y hb hk_) | ((with_reducible refine gate_callee (f := 117) rfl ?_); refine gl_ (some 15) Try.func117 #[ab, .func (.func 118) #[] #[]] ?_; refine (sort_out (onS P) hO (bn HB) hc1 hc2).mono ?_; rintro e w13 ⟨rfl, y, hb⟩; refine ⟨_, rfl, ?_⟩; clear j; replace P := am y; replace HB := am hb; clear hb y))
 go_ret
 exact ⟨_, er_, onS P, bn HB⟩
end Go.Proofs.Ytffflhmblelegaa.F
