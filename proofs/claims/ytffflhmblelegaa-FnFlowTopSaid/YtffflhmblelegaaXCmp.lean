/-
cmp.Compare and cmp.Or at two numbers, in plain words.
-/
import Derived.Test.YtffflhmblelegaaF4
namespace Go.Proofs.Ytffflhmblelegaa.F
open Go.RowKit Go.Proofs.YtffflhmblelegaaW.PrintWords Go.Proofs.YtffflhmblelegaaW.PrintLast Go.Proofs.YtffflhmblelegaaW.PrintMore
def cmpI (a b : Int) : Int := if a < b then -1 else if b < a then 1 else 0
theorem cmp_eq (a b : Int) : cmp_Compare_int.f a b = some (cmpI a b) := by
  unfold cmp_Compare_int.f cmp_isNaN_int.f cmpI
  simp only [bne_self_eq_false, Option.bind_some, Bool.false_eq_true, if_false]
  split
  · rfl
  · split
    · rfl
    · rfl
theorem or_eq (k : Nat) (a b : Int) : cmp_Or_int.f (k + 4) [a, b] = some (if a = 0 then b else a) := by
  by_cases h : a = 0
  · by_cases k : b = 0
    · subst h; subst k; simp [cmp_Or_int.f, cmp_Or_int.l0, rd, wrap64]
    · subst h; simp [cmp_Or_int.f, cmp_Or_int.l0, rd, wrap64, k]
  · simp [cmp_Or_int.f, cmp_Or_int.l0, rd, h]
end Go.Proofs.Ytffflhmblelegaa.F
