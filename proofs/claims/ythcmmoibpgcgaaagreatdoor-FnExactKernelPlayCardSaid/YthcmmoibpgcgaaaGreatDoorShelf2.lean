/- The numbers by which the kit's contracts of slices.Insert and slices.BinarySearch (at []string) are laid at this program (printed by the kit's lay-plain.mjs). -/
import Derived.Ground.Names2Prog
import Derived.Shelf.Spec.SlicesInsert
import Derived.Shelf.Spec.SlicesInsertGrow
import Derived.Shelf.Spec.SearchS
import Derived.Test.YthcmmoibpgcgaaaGreatDoorRows
namespace Go.Proofs.YthcmmoibpgcgaaaGreatDoor
open Go.Shelf
def laysNm222_ren : Go.Shelf.Ren := ⟨fun | 22 => 303 | 29 => 322 | 30 => 323 | 36 => 332 | 17 => 336 | n => n, fun | 24 => 84 | 9 => 9 | 3 => 3 | 4 => 4 | 0 => 0 | n => n, fun | n => n⟩
theorem laysNm222 : Go.Proofs.Lays2.n22 Tryz.prog laysNm222_ren := {
  mixed := by kernel_rfl
  f17 := Tryz.func336.trans (congrArg some (by kernel_rfl))
  f22 := Tryz.func303.trans (congrArg some (by kernel_rfl))
  f29 := Tryz.func322.trans (congrArg some (by kernel_rfl))
  f30 := Tryz.func323.trans (congrArg some (by kernel_rfl))
  f36 := Tryz.func332.trans (congrArg some (by kernel_rfl))
  t0 := Tryz.underlying0
  a0 := Tryz.isAgg0
  z0 := Tryz.sizeOf0
  v0 := Tryz.zeroValue0
  t3 := Tryz.underlying3
  a3 := Tryz.isAgg3
  z3 := Tryz.sizeOf3
  v3 := Tryz.zeroValue3
  t4 := Tryz.underlying4
  a4 := Tryz.isAgg4
  z4 := Tryz.sizeOf4
  v4 := Tryz.zeroValue4
  t9 := Tryz.underlying9
  a9 := Tryz.isAgg9
  z9 := Tryz.sizeOf9
  v9 := Tryz.zeroValue9
  t24 := Tryz.underlying84
  a24 := Tryz.isAgg84
  z24 := Tryz.sizeOf84
  v24 := Tryz.zeroValue84
  i9 := by kernel_rfl }
def laysNm226_ren : Go.Shelf.Ren := ⟨fun | 26 => 302 | 33 => 320 | 34 => 321 | 38 => 331 | n => n, fun | 24 => 84 | 9 => 9 | 3 => 3 | 4 => 4 | 40 => 197 | 0 => 0 | n => n, fun | n => n⟩
theorem laysNm226 : Go.Proofs.Lays2.n26 Tryz.prog laysNm226_ren := {
  mixed := by kernel_rfl
  f26 := Tryz.func302.trans (congrArg some (by kernel_rfl))
  f33 := Tryz.func320.trans (congrArg some (by kernel_rfl))
  f34 := Tryz.func321.trans (congrArg some (by kernel_rfl))
  f38 := Tryz.func331.trans (congrArg some (by kernel_rfl))
  t0 := Tryz.underlying0
  a0 := Tryz.isAgg0
  z0 := Tryz.sizeOf0
  v0 := Tryz.zeroValue0
  t3 := Tryz.underlying3
  a3 := Tryz.isAgg3
  z3 := Tryz.sizeOf3
  v3 := Tryz.zeroValue3
  t4 := Tryz.underlying4
  a4 := Tryz.isAgg4
  z4 := Tryz.sizeOf4
  v4 := Tryz.zeroValue4
  t9 := Tryz.underlying9
  a9 := Tryz.isAgg9
  z9 := Tryz.sizeOf9
  v9 := Tryz.zeroValue9
  t24 := Tryz.underlying84
  a24 := Tryz.isAgg84
  z24 := Tryz.sizeOf84
  v24 := Tryz.zeroValue84
  t40 := Tryz.underlying197
  a40 := Tryz.isAgg197
  z40 := Tryz.sizeOf197
  v40 := Tryz.zeroValue197 }
end Go.Proofs.YthcmmoibpgcgaaaGreatDoor
