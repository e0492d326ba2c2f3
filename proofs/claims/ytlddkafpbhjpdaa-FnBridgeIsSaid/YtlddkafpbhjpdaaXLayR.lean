/-
That the program holds slices.SortFunc at []int's slice, as the shelf's contract wants it told (written by laysort.py).
-/
import Derived.Shelf.SlSortCmp.Whole1
import Derived.Test.YtlddkafpbhjpdaaProg
namespace Go.Proofs.Ytlddkafpbhjpdaa.F
open Go.Shelf Go.Proofs

def renR : Go.Shelf.Ren := ⟨fun x => match x with | 6 => 64 | 14 => 75 | 15 => 76 | 20 => 81 | 21 => 82 | 22 => 83 | 23 => 84 | 24 => 85 | 25 => 86 | 26 => 87 | 27 => 88 | 28 => 89 | 29 => 90 | 46 => 92 | 47 => 93 | 48 => 94 | 49 => 95 | 50 => 96 | 57 => 97 | _ => 0, fun x => match x with | 0 => 0 | 3 => 3 | 4 => 4 | 5 => 5 | 9 => 9 | 22 => 30 | 24 => 39 | 25 => 76 | 39 => 84 | 45 => 89 | 46 => 90 | 50 => 35 | 53 => 96 | 55 => 98 | 66 => 99 | 70 => 103 | 76 => 105 | 77 => 106 | _ => 0, fun x => x⟩
theorem layR : Go.Proofs.SlLaysF.n6 Try.prog renR where
  mixed := by kernel_rfl
  f6 := ⟨(Try.f64).name, by decide, by kernel_rfl⟩
  f14 := ⟨(Try.f75).name, by decide, by kernel_rfl⟩
  f15 := by kernel_rfl
  f20 := ⟨(Try.f81).name, by decide, by kernel_rfl⟩
  f21 := ⟨(Try.f82).name, by decide, by kernel_rfl⟩
  f22 := ⟨(Try.f83).name, by decide, by kernel_rfl⟩
  f23 := ⟨(Try.f84).name, by decide, by kernel_rfl⟩
  f24 := ⟨(Try.f85).name, by decide, by kernel_rfl⟩
  f25 := ⟨(Try.f86).name, by decide, by kernel_rfl⟩
  f26 := ⟨(Try.f87).name, by decide, by kernel_rfl⟩
  f27 := ⟨(Try.f88).name, by decide, by kernel_rfl⟩
  f28 := by kernel_rfl
  f29 := by kernel_rfl
  f46 := ⟨(Try.f92).name, by decide, by kernel_rfl⟩
  f47 := by kernel_rfl
  f48 := by kernel_rfl
  f49 := ⟨(Try.f95).name, by decide, by kernel_rfl⟩
  f50 := ⟨(Try.f96).name, by decide, by kernel_rfl⟩
  f57 := ⟨(Try.f97).name, by decide, by kernel_rfl⟩
  t0 := by kernel_rfl
  a0 := fun w => by kernel_rfl
  z0 := fun w => by kernel_rfl
  v0 := fun w => by kernel_rfl
  t3 := by kernel_rfl
  a3 := fun w => by kernel_rfl
  z3 := fun w => by kernel_rfl
  v3 := fun w => by kernel_rfl
  t4 := by kernel_rfl
  a4 := fun w => by kernel_rfl
  z4 := fun w => by kernel_rfl
  v4 := fun w => by kernel_rfl
  t5 := by kernel_rfl
  a5 := fun w => by kernel_rfl
  z5 := fun w => by kernel_rfl
  v5 := fun w => by kernel_rfl
  t9 := by kernel_rfl
  a9 := fun w => by kernel_rfl
  z9 := fun w => by kernel_rfl
  v9 := fun w => by kernel_rfl
  t22 := by kernel_rfl
  a22 := fun w => by kernel_rfl
  z22 := fun w => by kernel_rfl
  v22 := fun w => by kernel_rfl
  a24 := fun w => by kernel_rfl
  z24 := fun w => by kernel_rfl
  t25 := by kernel_rfl
  a25 := fun w => by kernel_rfl
  z25 := fun w => by kernel_rfl
  v25 := fun w => by kernel_rfl
  t39 := by kernel_rfl
  a39 := fun w => by kernel_rfl
  z39 := fun w => by kernel_rfl
  v39 := fun w => by kernel_rfl
  t45 := by kernel_rfl
  a45 := fun w => by kernel_rfl
  z45 := fun w => by kernel_rfl
  v45 := fun w => by kernel_rfl
  t46 := by kernel_rfl
  a46 := fun w => by kernel_rfl
  z46 := fun w => by kernel_rfl
  v46 := fun w => by kernel_rfl
  t50 := by kernel_rfl
  a50 := fun w => by kernel_rfl
  z50 := fun w => by kernel_rfl
  v50 := fun w => by kernel_rfl
  t53 := by kernel_rfl
  a53 := fun w => by kernel_rfl
  z53 := fun w => by kernel_rfl
  v53 := fun w => by kernel_rfl
  t55 := by kernel_rfl
  a55 := fun w => by kernel_rfl
  z55 := fun w => by kernel_rfl
  v55 := fun w => by kernel_rfl
  t66 := by kernel_rfl
  a66 := fun w => by kernel_rfl
  z66 := fun w => by kernel_rfl
  v66 := fun w => by kernel_rfl
  t70 := by kernel_rfl
  a70 := fun w => by kernel_rfl
  z70 := fun w => by kernel_rfl
  v70 := fun w => by kernel_rfl
  t76 := by kernel_rfl
  a76 := fun w => by kernel_rfl
  z76 := fun w => by kernel_rfl
  v76 := fun w => by kernel_rfl
  t77 := by kernel_rfl
  a77 := fun w => by kernel_rfl
  z77 := fun w => by kernel_rfl
  v77 := fun w => by kernel_rfl
end Go.Proofs.Ytlddkafpbhjpdaa.F
