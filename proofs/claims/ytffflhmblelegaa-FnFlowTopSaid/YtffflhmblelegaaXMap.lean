/-
A map from ties to Bools that a call makes, told as one number: the keys that were put in are its bits. Made, asked, put into.
-/
import Derived.Test.YtffflhmblelegaaF0
import Derived.Maps.OwnSet
import Derived.DeepKeys4
namespace Go.Proofs.Ytffflhmblelegaa.F
open Go.RowKit Go.Proofs.YtffflhmblelegaaW.PrintWords Go.Proofs.YtffflhmblelegaaW.PrintLast Go.Proofs.YtffflhmblelegaaW.PrintMore
open Go.Maps (Keyed)
theorem mp_u : Try.prog.underlying 78 = some (.map 52 4) := by kernel_rfl
theorem mp_b : Try.prog.underlying 4 = some .bool := by kernel_rfl
theorem mp_zero (w : World) : (zeroValue 4).run Try.prog w = .ok (.bool false) w := by kernel_rfl
theorem mp_law : Keyed Try.prog 52 := Keyed.of_law (deep_law_laid (by kernel_rfl) (m := 2) (by omega) (of_decide_eq_true (by kernel_rfl)) (by kernel_rfl) (by kernel_rfl))
def mpV (a b : Int) : Value := .agg #[.int .i64 a, .int .i64 b]
theorem mp_keys : ((List.range 64).all fun i => (keyOf Try.prog 52 (mpV ((i / 8 : Nat) : Int) ((i % 8 : Nat) : Int))).isSome) = true := by kernel_rfl
/-- A tie of the knots 0 to 7. -/
def mpIn (a b : Int) : Prop := 0 ≤ a ∧ a < 8 ∧ 0 ≤ b ∧ b < 8
instance (a b : Int) : Decidable (mpIn a b) := inferInstanceAs (Decidable (_ ∧ _ ∧ _ ∧ _))
def mpI (a b : Int) : Nat := (8 * a + b).toNat
/-- Is it among the keys? -/
def mpBit (s a b : Int) : Bool := s.toNat.testBit (mpI a b)
def mpSet (s a b : Int) : Int := ((s.toNat ||| 2 ^ mpI a b : Nat) : Int)
theorem mpBit_set {s a b a' b' : Int} (h : mpIn a b) (h' : mpIn a' b') : mpBit (mpSet s a b) a' b' = (mpBit s a' b' || decide (a' = a ∧ b' = b)) := by
  unfold mpBit mpSet
  rw [Int.toNat_natCast, Nat.testBit_or]
  congr 1
  by_cases e : mpI a b = mpI a' b'
  · rw [e, Nat.testBit_two_pow_self]
    unfold mpI mpIn at *
    exact (decide_eq_true (by omega)).symm
  · rw [Nat.testBit_two_pow_of_ne e]
    refine (decide_eq_false (fun k => e ?_)).symm
    rw [k.1, k.2]
theorem mpBit_zero (a b : Int) : mpBit 0 a b = false := by simp [mpBit]
def mpCnt (s : Int) : Nat := (List.range 64).countP (fun i => s.toNat.testBit i)
theorem mpCnt_le (s : Int) : mpCnt s ≤ 64 := Nat.le_trans List.countP_le_length (by simp)
theorem countP_new (p : Nat → Bool) (i : Nat) (hp : p i = false) : ∀ l : List Nat, l.Nodup → i ∈ l → l.countP (fun j => p j || decide (i = j)) = l.countP p + 1
  | [], _, h => by simp at h
  | j :: l, hn, h => by
    obtain ⟨h1, h2⟩ := List.nodup_cons.1 hn
    rw [List.countP_cons, List.countP_cons]
    by_cases e : i = j
    · subst e
      have : l.countP (fun j => p j || decide (i = j)) = l.countP p := by
        refine List.countP_congr (fun x hx => ?_)
        have : ¬ i = x := fun e => h1 (e ▸ hx)
        simp [this]
      rw [this]; simp [hp]
    · rw [countP_new p i hp l h2 (by rcases List.mem_cons.1 h with h | h; exact absurd h e; exact h)]
      simp only [e, decide_false, Bool.or_false]
      omega
theorem mpCnt_set {s a b : Int} (h : mpIn a b) : mpCnt (mpSet s a b) = if mpBit s a b then mpCnt s else mpCnt s + 1 := by
  have hi : mpI a b < 64 := by unfold mpI; unfold mpIn at h; omega
  have e : mpCnt (mpSet s a b) = (List.range 64).countP (fun j => s.toNat.testBit j || decide (mpI a b = j)) := by
    unfold mpCnt mpSet
    refine List.countP_congr (fun j _ => ?_)
    rw [Int.toNat_natCast, Nat.testBit_or, Nat.testBit_two_pow]
  rw [e]
  by_cases hb : mpBit s a b = true
  · rw [if_pos hb]
    unfold mpCnt
    refine List.countP_congr (fun j _ => ?_)
    by_cases k : mpI a b = j
    · subst k
      unfold mpBit at hb
      simp [hb]
    · simp [k]
  · rw [if_neg hb]
    exact countP_new _ _ (by unfold mpBit at hb; simpa using hb) _ List.nodup_range (List.mem_range.2 hi)
theorem mp_key {a b : Int} (h : mpIn a b) : ∃ l, keyOf Try.prog 52 (mpV a b) = some l := by
  have := List.all_eq_true.1 mp_keys (mpI a b) (List.mem_range.2 (by unfold mpI; unfold mpIn at h; omega))
  unfold mpIn at h
  rw [show ((mpI a b / 8 : Nat) : Int) = a by unfold mpI; omega, show ((mpI a b % 8 : Nat) : Int) = b by unfold mpI; omega] at this
  exact Option.isSome_iff_exists.1 this
/-- What the map's datum says, by the number. -/
structure MpR (s : Int) (D : DataW Unit) : Prop where
  isMap : Maps.IsMap D
  at_ : ∀ a b l, mpIn a b → keyOf Try.prog 52 (mpV a b) = some l → D.atKey l (.lit (.bool false)) = .lit (.bool (mpBit s a b))
  has_ : ∀ a b l, mpIn a b → keyOf Try.prog 52 (mpV a b) = some l → Maps.has D l = mpBit s a b
  size_ : Maps.size D ≤ mpCnt s
theorem MpR.new : MpR 0 (.map []) := ⟨Maps.isMap_empty, fun a b l _ _ => by rw [mpBit_zero]; rfl, fun a b l _ _ => by rw [mpBit_zero]; rfl, Nat.zero_le _⟩
theorem MpR.put {s : Int} {D : DataW Unit} (h : MpR s D) (ht : Maps.Tidy D) {a b : Int} {l : Lit} (hab : mpIn a b) (hl : keyOf Try.prog 52 (mpV a b) = some l) : MpR (mpSet s a b) (D.put l (.lit (.bool true))) := by
  have hk := mp_law.key hl
  have other : ∀ a' b' l', mpIn a' b' → keyOf Try.prog 52 (mpV a' b') = some l' → ¬ (a' = a ∧ b' = b) → l' ≠ l := fun a' b' l' h' hl' hne e => by
    subst e
    have := mp_law.inj hl' hl
    simp only [mpV, Value.agg.injEq] at this
    injection this with this
    injection this with h1 h2
    injection h2 with h2 _
    injection h1 with _ h1
    injection h2 with _ h2
    exact hne ⟨h1, h2⟩
  refine ⟨h.isMap.put _ _, fun a' b' l' h' hl' => ?_, fun a' b' l' h' hl' => ?_, ?_⟩
  · rw [mpBit_set hab h']
    by_cases e : a' = a ∧ b' = b
    · obtain ⟨rfl, rfl⟩ := e
      obtain rfl := Option.some.inj (hl.symm.trans hl')
      rw [Maps.atKey_put_same h.isMap hk]; simp
    · rw [Maps.atKey_put_other (other a' b' l' h' hl' e), h.at_ a' b' l' h' hl']; simp [e]
  · rw [mpBit_set hab h']
    by_cases e : a' = a ∧ b' = b
    · obtain ⟨rfl, rfl⟩ := e
      obtain rfl := Option.some.inj (hl.symm.trans hl')
      rw [Maps.has_put_same h.isMap hk]; simp
    · rw [Maps.has_put_other (other a' b' l' h' hl' e), h.has_ a' b' l' h' hl']; simp [e]
  · rw [Maps.size_put ht, mpCnt_set hab, h.has_ a b l hab hl]
    have := h.size_
    split <;> omega
theorem ownsMap_tight {w : World} {P : Program} {k : TypeId} {R : Value → Option (DataW Unit × List MemPlace)} {b n : Nat} {D : DataW Unit} (h : w.ownsMap P k R b n D) : w.ownsMap P k R b (Maps.size D) D := by
  obtain ⟨es, clock, hb, F, _, rfl⟩ := h
  exact ⟨es, clock, hb, F, by rw [Maps.size_eq, length_sorted]; simp, rfl⟩
/-- A map that was made since w0, with these keys. -/
def IsS190 (w0 W : World) (g : Nat) (f0 : Int) : Prop := w0.heap.size ≤ g ∧ ∃ n D, W.ownsMap Try.prog 52 (plainElem (H := Unit) Try.prog 4) g n D ∧ MpR f0 D
section
variable {w0 W W1 : World} {g : Nat} {f0 : Int}
theorem IsS190.blk (h : IsS190 w0 W g f0) : ∃ es c, W.heap[g]? = some (.map es c) := by
  obtain ⟨_, _, _, ⟨es, c, hb, _⟩, _⟩ := h
  exact ⟨es, c, hb⟩
theorem IsS190.grown {row : Option Nat} (h : IsS190 w0 W g f0) (hw : W.grownBy W1 row) (hne : some g ≠ row) : IsS190 w0 W1 g f0 := by
  obtain ⟨hg, n, D, ho, hr⟩ := h
  exact ⟨hg, n, D, ho.kept hw hne, hr⟩
theorem IsS190.same (h : IsS190 w0 W g f0) (e : W1.heap[g]? = W.heap[g]?) : IsS190 w0 W1 g f0 := by
  obtain ⟨hg, n, D, ⟨es, c, hb, r⟩, hr⟩ := h
  exact ⟨hg, n, D, ⟨es, c, e.trans hb, r⟩, hr⟩
theorem IsS190.lt (h : IsS190 w0 W g f0) : g < W.heap.size := by obtain ⟨_, _, hb⟩ := h.blk; exact blk_lt hb
theorem IsS190.below (h : IsS190 w0 W g f0) (hw : Below W.heap.size W W1) : IsS190 w0 W1 g f0 := h.grown (grown_of_below hw none) (by simp)
theorem IsS190.alloc (h : IsS190 w0 W g f0) (o : Obj) : IsS190 w0 (W.alloc o) g f0 := h.below (below_alloc (Below.refl _ _) o)
theorem IsS190.drewN (h : IsS190 w0 W g f0) (m : Nat) : IsS190 w0 (W.drewN m) g f0 := h
theorem IsS190.drew (h : IsS190 w0 W g f0) : IsS190 w0 W.drew g f0 := h
theorem IsS190.at_ {w' : World} {m : Nat} (hq : W.drewN m = w') (h : IsS190 w0 W g f0) : IsS190 w0 w' g f0 := by subst hq; exact IsS190.drewN h m
theorem IsS190.far {p : Addr} (h : IsS190 w0 W g f0) (hne : g ≠ p.block) (u : Value) : IsS190 w0 (W.setCell p u) g f0 := h.same (Below.heap_setCell W p u g hne)
theorem IsS190.ne_blk {a : Nat} {cs : Array Value} {t : TypeId} {fr : Nat × Nat} (h : IsS190 w0 W g f0) (hb2 : W.heap[a]? = some (.cells cs t fr)) (_ht : t ≠ 190) : g ≠ a := by
  obtain ⟨es, c, hb⟩ := h.blk
  rintro rfl
  rw [hb] at hb2
  cases hb2
variable {α : Type} {d : Kd α} {e base : Nat} {ok : Nat → Prop} {v : Value} {xs : List α}
/-- as it now stands -/
theorem IsS190.now (h : IsS190 w0 W g f0 := by repeat (first | (with_reducible first | exact Aside0.out (self := by assumption) | apply IsS190.alloc | apply IsS190.drewN | apply IsS190.drew | refine IsS190.far ?_ ao _) | exact Aside0.out (self := by assumption))) : IsS190 w0 W g f0 := h
end
/-! ### the operations, as calls -/
/-- What an operation on a map comes to. -/
def MpDo (_P : Program) (_w : World) (op : Value → World → Prop) (Q : Ending → World → Prop) : Prop := ∃ v w', op v w' ∧ Q (.returned v) w'
theorem MpDo.mono {P : Program} {w : World} {op : Value → World → Prop} {Q R : Ending → World → Prop} (h : MpDo P w op Q) (k : ∀ e w', Q e w' → R e w') : MpDo P w op R := by
  obtain ⟨v, w', h1, h2⟩ := h
  exact ⟨v, w', h1, k _ _ h2⟩
def mpNewOp (_P : Program) (_t : TypeId) (w : World) (v : Value) (w' : World) : Prop := v = .map (some w.heap.size) ∧ w' = w.alloc (.map #[] 0)
def mpHasOp (P : Program) (t : TypeId) (m k : Value) (w : World) (v : Value) (w' : World) : Prop := (Instr.lookup t m k false).run P w = .ok v w'
def mpAddOp (P : Program) (t : TypeId) (m k x : Value) (w : World) (v : Value) (w' : World) : Prop := (Instr.mapUpdate t m k x).run P w = .ok () w' ∧ v = .tuple #[]
section
variable {P : Program} {ops : Array Oper} {Q : Exit → Act → World → Prop} {rest : List Oper} {oi : Oper} {a : Act} {w : World}
theorem mn_ (N : Option Tmp) (t : TypeId) (h : MpDo P w (mpNewOp P t w) fun e w' => ∃ v, e = .returned v ∧ wpList P ops Q rest (a.put N v) w') (hd : oi.dst = N := by rfl) (hg : oi.guard = none := by rfl) (hop : oi.op = .makeMap t none := by rfl) : wpList P ops Q (oi :: rest) a w := by
  obtain ⟨v, w', ⟨rfl, rfl⟩, v', e, h⟩ := h
  cases e
  refine wpList_plain hg fun K hK => ?_
  unfold Oper.wp
  simp [execOp, hop, run_makeMap, Result.andThen]
  exact hK _ _ (hd ▸ h)
theorem mh_ (N : Option Tmp) (t : TypeId) (m k : Value) (h : MpDo P w (mpHasOp P t m k w) fun e w' => ∃ v, e = .returned v ∧ wpList P ops Q rest (a.put N v) w') {mo ko : Operand} (hd : oi.dst = N := by rfl) (hg : oi.guard = none := by rfl) (hop : oi.op = .lookup t mo ko false := by rfl)
    (hm : a.eval mo = m := by rfl) (hk : a.eval ko = k := by rfl) : wpList P ops Q (oi :: rest) a w := by
  obtain ⟨v, w', hr, v', e, h⟩ := h
  cases e
  refine wpList_plain hg fun K hK => ?_
  unfold mpHasOp at hr
  unfold Oper.wp
  simp [execOp, hop, hm, hk, hr, Result.andThen]
  exact hK _ _ (hd ▸ h)
theorem ma_ (t : TypeId) (m k x : Value) (h : MpDo P w (mpAddOp P t m k x w) fun e w' => ∃ v, e = .returned v ∧ wpList P ops Q rest (a.put none v) w') {mo ko xo : Operand} (hd : oi.dst = none := by rfl) (hg : oi.guard = none := by rfl) (hop : oi.op = .mapUpdate t mo ko xo := by rfl)
    (hm : a.eval mo = m := by rfl) (hk : a.eval ko = k := by rfl) (hx : a.eval xo = x := by rfl) : wpList P ops Q (oi :: rest) a w := by
  obtain ⟨v, w', ⟨hr, rfl⟩, v', e, h⟩ := h
  cases e
  refine wpList_plain hg fun K hK => ?_
  unfold Oper.wp
  simp [execOp, hop, hm, hk, hx, hr, Result.andThen]
  exact hK _ _ (hd ▸ h)
end
theorem gate_mu {t : TypeId} {mo ko xo : Operand} {P : Program} {ops : Array Oper} {Q : Exit → Act → World → Prop} {rest : List Oper} {oi : Oper} {a : Act} {w : World} (_ : oi.op = .mapUpdate t mo ko xo) (h : wpList P ops Q (oi :: rest) a w) : wpList P ops Q (oi :: rest) a w := h
def impl_mapNew.f : Option Int := some 0
def impl_mapHas.f (s a b : Int) : Option (Bool × Int) := if mpIn a b then some (mpBit s a b, s) else none
def impl_mapAdd.f (s a b : Int) : Option Int := if mpIn a b then some (mpSet s a b) else none
theorem impl_mapNew.calls (r : Int) (w0 w : World) (hB : Below w0.heap.size w0 w) (h : impl_mapNew.f = some r) :
    MpDo Try.prog w (mpNewOp Try.prog 78 w) fun e w' => ∃ g_ : Nat, e = .returned (.map (some g_)) ∧ IsS190 w0 w' g_ r ∧ Below w0.heap.size w0 w' ∧ Below w.heap.size w w' := by
  obtain rfl := Option.some.inj h
  exact ⟨_, _, ⟨rfl, rfl⟩, _, rfl, ⟨hB.size, 0, _, World.ownsMap_made _ _ _ _, MpR.new⟩, below_alloc hB _, below_alloc (Below.refl _ _) _⟩
theorem impl_mapHas.calls (g : Nat) (s0_0 : Int) (a1_0 a1_1 : Int) (r1 : Bool) (r2 : Int) (w0 w : World) (hI : IsS190 w0 w g s0_0) (hB : Below w0.heap.size w0 w) (h : impl_mapHas.f s0_0 a1_0 a1_1 = some (r1, r2)) :
    MpDo Try.prog w (mpHasOp Try.prog 78 (.map (some g)) (.agg #[.int .i64 a1_0, .int .i64 a1_1]) w) fun e w' => e = .returned (.bool r1) ∧ IsS190 w0 w' g r2 ∧ Below w0.heap.size w0 w' ∧ KeepBut w w' g none := by
  unfold impl_mapHas.f at h
  split at h
  · rename_i hin
    cases h
    obtain ⟨l, hl⟩ := mp_key hin
    obtain ⟨hg, n, D, ho, hr⟩ := hI
    obtain ⟨v, ps, hrun, hv⟩ := ho.lookup mp_law mp_u (mp_zero w) (plainElem_bool mp_b false) hl
    rw [hr.at_ _ _ l hin hl] at hv
    have hvv : v = .bool (mpBit s0_0 a1_0 a1_1) := by
      unfold plainElem at hv
      rw [mp_b] at hv
      cases v <;> simp at hv
      rw [hv.1]
    subst hvv
    exact ⟨_, _, hrun, rfl, ⟨hg, n, D, ho, hr⟩, hB, KeepBut.refl _ _ _⟩
  · cases h
theorem impl_mapAdd.calls (g : Nat) (s0_0 : Int) (a1_0 a1_1 : Int) (r : Int) (w0 w : World) (hI : IsS190 w0 w g s0_0) (hB : Below w0.heap.size w0 w) (h : impl_mapAdd.f s0_0 a1_0 a1_1 = some r) :
    MpDo Try.prog w (mpAddOp Try.prog 78 (.map (some g)) (.agg #[.int .i64 a1_0, .int .i64 a1_1]) (.bool true) w) fun e w' => e = .returned (.tuple #[]) ∧ IsS190 w0 w' g r ∧ Below w0.heap.size w0 w' ∧ KeepBut w w' g none := by
  unfold impl_mapAdd.f at h
  split at h
  · rename_i hin
    cases h
    obtain ⟨l, hl⟩ := mp_key hin
    obtain ⟨hg, n, D, ho, hr⟩ := hI
    have hsz : Maps.size D < maxLen := by
      have h1 := hr.size_
      have h2 := mpCnt_le s0_0
      unfold maxLen
      omega
    obtain ⟨w', hrun, ho', hgr⟩ := (ownsMap_tight ho).update mp_law mp_u hsz hl (plainElem_bool mp_b true)
    refine ⟨_, _, ⟨hrun, rfl⟩, rfl, ⟨hg, _, _, ho', hr.put (ho.tidy mp_law) hin hl⟩, ?_, ?_⟩
    · exact hB.grown hgr hB.size (fun k e => by cases e; exact hg)
    · exact ⟨hgr.size, fun i hi hne _ => hgr.block i hi (fun e => hne (Option.some.inj e))⟩
  · cases h
end Go.Proofs.Ytffflhmblelegaa.F
