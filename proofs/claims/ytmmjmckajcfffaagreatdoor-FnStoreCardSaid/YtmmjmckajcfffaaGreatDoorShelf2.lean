/- The numbers by which the kit's contracts of slices.Insert and slices.BinarySearch (at []string) are laid at this program (printed by the kit's lay-plain.mjs). -/
import Derived.Ground.Names2Prog
import Derived.Shelf.Spec.SlicesInsert
import Derived.Shelf.Spec.SlicesInsertGrow
import Derived.Shelf.Spec.SearchS
import Derived.Test.YtmmjmckajcfffaaGreatDoorRows
namespace Go.Proofs.YtmmjmckajcfffaaGreatDoor
open Go.Shelf
def laysNm222_ren : Go.Shelf.Ren := ⟨fun | 22 => 237 | 29 => 262 | 30 => 263 | 36 => 270 | 17 => 274 | n => n, fun | 24 => 39 | 9 => 9 | 3 => 3 | 4 => 4 | 0 => 0 | n => n, fun | n => n⟩
theorem laysNm222 : Go.Proofs.Lays2.n22 Tryz.prog laysNm222_ren := {
  mixed := by kernel_rfl
  f17 := Tryz.func274.trans (congrArg some (by kernel_rfl))
  f22 := Tryz.func237.trans (congrArg some (by kernel_rfl))
  f29 := Tryz.func262.trans (congrArg some (by kernel_rfl))
  f30 := Tryz.func263.trans (congrArg some (by kernel_rfl))
  f36 := Tryz.func270.trans (congrArg some (by kernel_rfl))
  t0 := Tryz.underlying0
  a0 := Tryz.isAgg0
  z0 := Tryz.sizeOf0
  v0 := Tryz.zeroValue0
  t3 := Tryz.underlying3
  a3 := Tryz.isAgg3
  z3 := Tryz.sizeOf3
  v3 := Tryz.zeroValue3
  t4 := Tryz.underlying4
  a4 := Tryz.isAgg4
  z4 := Tryz.sizeOf4
  v4 := Tryz.zeroValue4
  t9 := Tryz.underlying9
  a9 := Tryz.isAgg9
  z9 := Tryz.sizeOf9
  v9 := Tryz.zeroValue9
  t24 := Tryz.underlying39
  a24 := Tryz.isAgg39
  z24 := Tryz.sizeOf39
  v24 := Tryz.zeroValue39
  i9 := by kernel_rfl }
def laysNm226_ren : Go.Shelf.Ren := ⟨fun | 26 => 236 | 33 => 260 | 34 => 261 | 38 => 269 | n => n, fun | 24 => 39 | 9 => 9 | 3 => 3 | 4 => 4 | 40 => 158 | 0 => 0 | n => n, fun | n => n⟩
theorem laysNm226 : Go.Proofs.Lays2.n26 Tryz.prog laysNm226_ren := {
  mixed := by kernel_rfl
  f26 := Tryz.func236.trans (congrArg some (by kernel_rfl))
  f33 := Tryz.func260.trans (congrArg some (by kernel_rfl))
  f34 := Tryz.func261.trans (congrArg some (by kernel_rfl))
  f38 := Tryz.func269.trans (congrArg some (by kernel_rfl))
  t0 := Tryz.underlying0
  a0 := Tryz.isAgg0
  z0 := Tryz.sizeOf0
  v0 := Tryz.zeroValue0
  t3 := Tryz.underlying3
  a3 := Tryz.isAgg3
  z3 := Tryz.sizeOf3
  v3 := Tryz.zeroValue3
  t4 := Tryz.underlying4
  a4 := Tryz.isAgg4
  z4 := Tryz.sizeOf4
  v4 := Tryz.zeroValue4
  t9 := Tryz.underlying9
  a9 := Tryz.isAgg9
  z9 := Tryz.sizeOf9
  v9 := Tryz.zeroValue9
  t24 := Tryz.underlying39
  a24 := Tryz.isAgg39
  z24 := Tryz.sizeOf39
  v24 := Tryz.zeroValue39
  t40 := Tryz.underlying158
  a40 := Tryz.isAgg158
  z40 := Tryz.sizeOf158
  v40 := Tryz.zeroValue158 }
end Go.Proofs.YtmmjmckajcfffaaGreatDoor
