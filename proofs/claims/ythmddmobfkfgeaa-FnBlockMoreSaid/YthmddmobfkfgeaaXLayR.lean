/-
That the program holds slices.SortFunc at []int's slice, as the shelf's contract wants it told (written by laysort.py).
-/
import Derived.Shelf.SlSortCmp.Whole1
import Derived.Test.YthmddmobfkfgeaaProg
namespace Go.Proofs.Ythmddmobfkfgeaa.F
open Go.Shelf Go.Proofs

def renR : Go.Shelf.Ren := ⟨fun x => match x with | 6 => 143 | 14 => 177 | 15 => 136 | 20 => 189 | 21 => 190 | 22 => 191 | 23 => 192 | 24 => 193 | 25 => 194 | 26 => 195 | 27 => 196 | 28 => 165 | 29 => 166 | 46 => 199 | 47 => 182 | 48 => 183 | 49 => 200 | 50 => 201 | 57 => 202 | _ => 0, fun x => match x with | 0 => 0 | 3 => 3 | 4 => 4 | 5 => 5 | 9 => 9 | 22 => 60 | 24 => 57 | 25 => 127 | 39 => 120 | 45 => 133 | 46 => 134 | 50 => 72 | 53 => 140 | 55 => 142 | 66 => 150 | 70 => 154 | 76 => 163 | 77 => 164 | _ => 0, fun x => x⟩
theorem layR : Go.Proofs.SlLaysF.n6 Try.prog renR where
  mixed := by kernel_rfl
  f6 := ⟨(Try.f143).name, by decide, by kernel_rfl⟩
  f14 := ⟨(Try.f177).name, by decide, by kernel_rfl⟩
  f15 := by kernel_rfl
  f20 := ⟨(Try.f189).name, by decide, by kernel_rfl⟩
  f21 := ⟨(Try.f190).name, by decide, by kernel_rfl⟩
  f22 := ⟨(Try.f191).name, by decide, by kernel_rfl⟩
  f23 := ⟨(Try.f192).name, by decide, by kernel_rfl⟩
  f24 := ⟨(Try.f193).name, by decide, by kernel_rfl⟩
  f25 := ⟨(Try.f194).name, by decide, by kernel_rfl⟩
  f26 := ⟨(Try.f195).name, by decide, by kernel_rfl⟩
  f27 := ⟨(Try.f196).name, by decide, by kernel_rfl⟩
  f28 := by kernel_rfl
  f29 := by kernel_rfl
  f46 := ⟨(Try.f199).name, by decide, by kernel_rfl⟩
  f47 := by kernel_rfl
  f48 := by kernel_rfl
  f49 := ⟨(Try.f200).name, by decide, by kernel_rfl⟩
  f50 := ⟨(Try.f201).name, by decide, by kernel_rfl⟩
  f57 := ⟨(Try.f202).name, by decide, by kernel_rfl⟩
  t0 := by kernel_rfl
  a0 := fun w => by kernel_rfl
  z0 := fun w => by kernel_rfl
  v0 := fun w => by kernel_rfl
  t3 := by kernel_rfl
  a3 := fun w => by kernel_rfl
  z3 := fun w => by kernel_rfl
  v3 := fun w => by kernel_rfl
  t4 := by kernel_rfl
  a4 := fun w => by kernel_rfl
  z4 := fun w => by kernel_rfl
  v4 := fun w => by kernel_rfl
  t5 := by kernel_rfl
  a5 := fun w => by kernel_rfl
  z5 := fun w => by kernel_rfl
  v5 := fun w => by kernel_rfl
  t9 := by kernel_rfl
  a9 := fun w => by kernel_rfl
  z9 := fun w => by kernel_rfl
  v9 := fun w => by kernel_rfl
  t22 := by kernel_rfl
  a22 := fun w => by kernel_rfl
  z22 := fun w => by kernel_rfl
  v22 := fun w => by kernel_rfl
  a24 := fun w => by kernel_rfl
  z24 := fun w => by kernel_rfl
  t25 := by kernel_rfl
  a25 := fun w => by kernel_rfl
  z25 := fun w => by kernel_rfl
  v25 := fun w => by kernel_rfl
  t39 := by kernel_rfl
  a39 := fun w => by kernel_rfl
  z39 := fun w => by kernel_rfl
  v39 := fun w => by kernel_rfl
  t45 := by kernel_rfl
  a45 := fun w => by kernel_rfl
  z45 := fun w => by kernel_rfl
  v45 := fun w => by kernel_rfl
  t46 := by kernel_rfl
  a46 := fun w => by kernel_rfl
  z46 := fun w => by kernel_rfl
  v46 := fun w => by kernel_rfl
  t50 := by kernel_rfl
  a50 := fun w => by kernel_rfl
  z50 := fun w => by kernel_rfl
  v50 := fun w => by kernel_rfl
  t53 := by kernel_rfl
  a53 := fun w => by kernel_rfl
  z53 := fun w => by kernel_rfl
  v53 := fun w => by kernel_rfl
  t55 := by kernel_rfl
  a55 := fun w => by kernel_rfl
  z55 := fun w => by kernel_rfl
  v55 := fun w => by kernel_rfl
  t66 := by kernel_rfl
  a66 := fun w => by kernel_rfl
  z66 := fun w => by kernel_rfl
  v66 := fun w => by kernel_rfl
  t70 := by kernel_rfl
  a70 := fun w => by kernel_rfl
  z70 := fun w => by kernel_rfl
  v70 := fun w => by kernel_rfl
  t76 := by kernel_rfl
  a76 := fun w => by kernel_rfl
  z76 := fun w => by kernel_rfl
  v76 := fun w => by kernel_rfl
  t77 := by kernel_rfl
  a77 := fun w => by kernel_rfl
  z77 := fun w => by kernel_rfl
  v77 := fun w => by kernel_rfl
end Go.Proofs.Ythmddmobfkfgeaa.F
