/-
That the program holds slices.SortFunc at []int's slice, as the shelf's contract wants it told (written by laysort.py).
-/
import Derived.Shelf.SlSortCmp.Whole1
import Derived.Test.YtiamiahkjdipkaaProg
namespace Go.Proofs.Ytiamiahkjdipkaa.F
open Go.Shelf Go.Proofs

def renR : Go.Shelf.Ren := ⟨fun x => match x with | 6 => 73 | 14 => 92 | 15 => 93 | 20 => 103 | 21 => 104 | 22 => 105 | 23 => 106 | 24 => 107 | 25 => 108 | 26 => 109 | 27 => 110 | 28 => 111 | 29 => 112 | 46 => 114 | 47 => 115 | 48 => 116 | 49 => 117 | 50 => 118 | 57 => 119 | _ => 0, fun x => match x with | 0 => 0 | 3 => 3 | 4 => 4 | 5 => 5 | 9 => 9 | 22 => 30 | 24 => 36 | 25 => 93 | 39 => 108 | 45 => 115 | 46 => 116 | 50 => 120 | 53 => 123 | 55 => 125 | 66 => 126 | 70 => 130 | 76 => 132 | 77 => 133 | _ => 0, fun x => x⟩
theorem layR : Go.Proofs.SlLaysF.n6 Try.prog renR where
  mixed := by kernel_rfl
  f6 := ⟨(Try.f73).name, by decide, by kernel_rfl⟩
  f14 := ⟨(Try.f92).name, by decide, by kernel_rfl⟩
  f15 := by kernel_rfl
  f20 := ⟨(Try.f103).name, by decide, by kernel_rfl⟩
  f21 := ⟨(Try.f104).name, by decide, by kernel_rfl⟩
  f22 := ⟨(Try.f105).name, by decide, by kernel_rfl⟩
  f23 := ⟨(Try.f106).name, by decide, by kernel_rfl⟩
  f24 := ⟨(Try.f107).name, by decide, by kernel_rfl⟩
  f25 := ⟨(Try.f108).name, by decide, by kernel_rfl⟩
  f26 := ⟨(Try.f109).name, by decide, by kernel_rfl⟩
  f27 := ⟨(Try.f110).name, by decide, by kernel_rfl⟩
  f28 := by kernel_rfl
  f29 := by kernel_rfl
  f46 := ⟨(Try.f114).name, by decide, by kernel_rfl⟩
  f47 := by kernel_rfl
  f48 := by kernel_rfl
  f49 := ⟨(Try.f117).name, by decide, by kernel_rfl⟩
  f50 := ⟨(Try.f118).name, by decide, by kernel_rfl⟩
  f57 := ⟨(Try.f119).name, by decide, by kernel_rfl⟩
  t0 := by kernel_rfl
  a0 := fun w => by kernel_rfl
  z0 := fun w => by kernel_rfl
  v0 := fun w => by kernel_rfl
  t3 := by kernel_rfl
  a3 := fun w => by kernel_rfl
  z3 := fun w => by kernel_rfl
  v3 := fun w => by kernel_rfl
  t4 := by kernel_rfl
  a4 := fun w => by kernel_rfl
  z4 := fun w => by kernel_rfl
  v4 := fun w => by kernel_rfl
  t5 := by kernel_rfl
  a5 := fun w => by kernel_rfl
  z5 := fun w => by kernel_rfl
  v5 := fun w => by kernel_rfl
  t9 := by kernel_rfl
  a9 := fun w => by kernel_rfl
  z9 := fun w => by kernel_rfl
  v9 := fun w => by kernel_rfl
  t22 := by kernel_rfl
  a22 := fun w => by kernel_rfl
  z22 := fun w => by kernel_rfl
  v22 := fun w => by kernel_rfl
  a24 := fun w => by kernel_rfl
  z24 := fun w => by kernel_rfl
  t25 := by kernel_rfl
  a25 := fun w => by kernel_rfl
  z25 := fun w => by kernel_rfl
  v25 := fun w => by kernel_rfl
  t39 := by kernel_rfl
  a39 := fun w => by kernel_rfl
  z39 := fun w => by kernel_rfl
  v39 := fun w => by kernel_rfl
  t45 := by kernel_rfl
  a45 := fun w => by kernel_rfl
  z45 := fun w => by kernel_rfl
  v45 := fun w => by kernel_rfl
  t46 := by kernel_rfl
  a46 := fun w => by kernel_rfl
  z46 := fun w => by kernel_rfl
  v46 := fun w => by kernel_rfl
  t50 := by kernel_rfl
  a50 := fun w => by kernel_rfl
  z50 := fun w => by kernel_rfl
  v50 := fun w => by kernel_rfl
  t53 := by kernel_rfl
  a53 := fun w => by kernel_rfl
  z53 := fun w => by kernel_rfl
  v53 := fun w => by kernel_rfl
  t55 := by kernel_rfl
  a55 := fun w => by kernel_rfl
  z55 := fun w => by kernel_rfl
  v55 := fun w => by kernel_rfl
  t66 := by kernel_rfl
  a66 := fun w => by kernel_rfl
  z66 := fun w => by kernel_rfl
  v66 := fun w => by kernel_rfl
  t70 := by kernel_rfl
  a70 := fun w => by kernel_rfl
  z70 := fun w => by kernel_rfl
  v70 := fun w => by kernel_rfl
  t76 := by kernel_rfl
  a76 := fun w => by kernel_rfl
  z76 := fun w => by kernel_rfl
  v76 := fun w => by kernel_rfl
  t77 := by kernel_rfl
  a77 := fun w => by kernel_rfl
  z77 := fun w => by kernel_rfl
  v77 := fun w => by kernel_rfl
end Go.Proofs.Ytiamiahkjdipkaa.F
