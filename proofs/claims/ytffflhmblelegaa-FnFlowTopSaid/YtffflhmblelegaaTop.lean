/-
The program's head, read word by word: it says 'cut'; so a call may enter it. (For all rows of the seat: each by itself would reckon the whole head.)
-/
import Derived.Test.YtffflhmblelegaaChecked
import Derived.JoinedOf
import Derived.KernelRfl
namespace Go.Proofs.Ytffflhmblelegaa.Top
open Go
theorem words_app (w r : List Char) (hw : w.all (fun c => c != Char.ofNat 32) = true) : wordsSigns (w ++ Char.ofNat 32 :: r) = w :: wordsSigns r := by
  induction w with
  | nil => rfl
  | cons c w ih =>
    simp only [List.all_cons, Bool.and_eq_true, bne_iff_ne, ne_eq] at hw
    have h := ih hw.2
    rw [List.cons_append, wordsSigns, h]
    exact hw.1
def rest : List Char := [97, 116, 32, 108, 111, 111, 112, 46, 101, 120, 97, 109, 112, 108, 101, 47, 111, 115, 105, 101, 114, 47, 108, 97, 119, 115, 46, 70, 110, 70, 108, 111, 119, 79, 107, 32, 108, 111, 111, 112, 46, 101, 120, 97, 109, 112, 108, 101, 47, 111, 115, 105, 101, 114, 47, 108, 97, 119, 115, 46, 70, 110, 70, 108, 111, 119, 84, 111, 112, 32, 108, 111, 111, 112, 46, 101, 120, 97, 109, 112, 108, 101, 47, 111, 115, 105, 101, 114, 47, 108, 97, 119, 115, 46, 70, 110, 69, 120, 97, 99, 116, 66, 108, 111, 99, 107, 76, 105, 115, 116, 32, 108, 111, 111, 112, 46, 101, 120, 97, 109, 112, 108, 101, 47, 111, 115, 105, 101, 114, 47, 108, 97, 119, 115, 46, 70, 110, 66, 108, 111, 99, 107, 83, 97, 109, 101, 32, 108, 111, 111, 112, 46, 101, 120, 97, 109, 112, 108, 101, 47, 111, 115, 105, 101, 114, 47, 108, 97, 119, 115, 46, 70, 110, 84, 119, 111, 77, 111, 114, 101, 32, 108, 111, 111, 112, 46, 101, 120, 97, 109, 112, 108, 101, 47, 111, 115, 105, 101, 114, 47, 108, 97, 119, 115, 46, 70, 110, 84, 119, 111, 76, 111, 110, 103, 32, 108, 111, 111, 112, 46, 101, 120, 97, 109, 112, 108, 101, 47, 111, 115, 105, 101, 114, 47, 108, 97, 119, 115, 46, 70, 110, 69, 120, 97, 99, 116, 66, 108, 111, 99, 107, 75, 110, 111, 116, 115].map Char.ofNat
def sum : List Char := [48, 48, 50, 100, 97, 55, 52, 99, 52, 48, 99, 102, 57, 49, 102, 98, 102, 50, 98, 100, 55, 98, 99, 50, 52, 101, 99, 55, 99, 52, 52, 55, 51, 54, 48, 57, 53, 102, 51, 101, 102, 98, 97, 100, 51, 50, 97, 97, 100, 48, 49, 101, 52, 50, 51, 54, 56, 101, 56, 53, 55, 51, 102, 50].map Char.ofNat
def first : List Char := [104, 97, 114, 110, 101, 115, 115].map Char.ofNat
def cut : List Char := [99, 117, 116].map Char.ofNat
theorem order : Try.prog.initOrder = String.ofList (first ++ Char.ofNat 32 :: (sum ++ Char.ofNat 32 :: (cut ++ Char.ofNat 32 :: rest))) := by kernel_rfl
theorem words : ∃ R, behindMainWord (wordsSigns Try.prog.initOrder.toList) = cut :: R := by
  refine ⟨wordsSigns rest, ?_⟩
  rw [order, String.toList_ofList, words_app _ _ (by decide +kernel), words_app _ _ (by decide +kernel), words_app _ _ (by decide +kernel)]
  generalize wordsSigns rest = R
  show (if ((first == "harness".toList || first == "ownmain".toList) && isSumSigns sum) = true then cut :: R else first :: sum :: cut :: R) = cut :: R
  rw [if_pos (by decide +kernel)]
theorem strip (r : List (List Char)) : stripLifts liftWords (cut :: r) = ([], cut :: r) := by
  have h : ∀ os : List String, (os.all fun o => !(cut == o.toList)) = true → stripLifts os (cut :: r) = ([], cut :: r) := by
    intro os
    induction os with
    | nil => intro _; rfl
    | cons o os ih =>
      intro ho
      simp only [List.all_cons, Bool.and_eq_true, Bool.not_eq_true'] at ho
      rw [stripLifts, if_neg (by simp [ho.1])]
      exact ih (by simpa using ho.2)
  exact h liftWords (by decide +kernel)
theorem laysLater : Try.prog.laysLater = false := by kernel_rfl
theorem bearsReflect : Try.prog.bearsReflect = false := by kernel_rfl
theorem doorFits : Try.prog.doorFits [] = true := by kernel_rfl
section
variable (P : Program) {R : List (List Char)} (hw : behindMainWord (wordsSigns P.initOrder.toList) = cut :: R)
include hw
theorem lifts_of : P.headLifts = [] := by
  unfold Program.headLifts
  rw [hw, strip]
  exact if_pos (show (some cut == some "cut".toList) = true by decide +kernel)
theorem mayEnter_of (h1 : P.laysLater = false) (h2 : P.bearsReflect = false) (h3 : P.doorFits [] = true) : P.mayEnter = true := by
  unfold Program.mayEnter
  rw [hw]
  show (((cut == "gc".toList || cut == "spec".toList) && (R.isEmpty || R.head? == some "stop".toList)) || (cut == "carried".toList && R.take 2 == ["gc".toList, "cut".toList] && !P.laysLater && !P.bearsReflect) ||
    ((stripLifts liftWords (cut :: R)).2.head? == some "cut".toList && ((stripLifts liftWords (cut :: R)).1.contains "finals" || !P.laysLater) && ((stripLifts liftWords (cut :: R)).1.contains "reflectrows" || !P.bearsReflect) &&
      ((stripLifts liftWords (cut :: R)).1.contains "reflectrows" || !(stripLifts liftWords (cut :: R)).1.contains "leanrows") && P.doorFits (stripLifts liftWords (cut :: R)).1)) = true
  rw [strip, h1, h2]
  show (_ || ((some cut == some "cut".toList && (false || !false) && (false || !false) && (false || !false)) && P.doorFits [])) = true
  rw [h3, show (some cut == some "cut".toList) = true by decide +kernel]
  exact Bool.or_true _
theorem liftsFinal_of : P.liftsFinal = false := by
  unfold Program.liftsFinal
  rw [hw, lifts_of P hw]
  show ((some cut == some "carried".toList && _) || false) = false
  rw [show (some cut == some "carried".toList) = false by decide +kernel]
  rfl
theorem make_of : P.make = some .cut := by
  unfold Program.make
  rw [hw]
  show (if cut == "gc".toList || cut == "spec".toList then some Make.whole else if cut == "cut".toList || (cut == "finals".toList && R.head? == some "cut".toList) then some Make.cut else if cut == "carried".toList then some .carried else if P.headLifts.isEmpty then none else some (.lifted P.headLifts)) = some .cut
  rw [if_neg (by decide +kernel), show (cut == "cut".toList) = true by decide +kernel, Bool.true_or]
  exact if_pos rfl
end
theorem mayEnter : Try.prog.mayEnter = true := by
  obtain ⟨R, hw⟩ := words
  exact mayEnter_of _ hw laysLater bearsReflect doorFits
theorem liftsFinal : Try.prog.liftsFinal = false := by
  obtain ⟨R, hw⟩ := words
  exact liftsFinal_of _ hw
theorem make : Try.prog.make = some .cut := by
  obtain ⟨R, hw⟩ := words
  exact make_of _ hw
theorem and8 {a b c d e f g h : Bool} (ha : a = true) (hb : b = true) (hc : c = true) (hd : d = true) (he : e = true) (hf : f = true) (hg : g = true) (hh : h = true) : (a && b && c && d && e && f && g && h) = true := by
  subst ha; subst hb; subst hc; subst hd; subst he; subst hf; subst hg; subst hh; rfl
end Go.Proofs.Ytffflhmblelegaa.Top
