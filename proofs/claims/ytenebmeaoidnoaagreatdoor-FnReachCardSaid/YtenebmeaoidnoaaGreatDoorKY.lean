/- Short names. -/
import Derived.Test.YtenebmeaoidnoaaGreatDoorRows
import Derived.Lib.Hide
import Derived.Below
namespace Go.Proofs.YtenebmeaoidnoaaGreatDoor
open Go.RowKit
theorem hI_ {p : Prop} (h : p) : Hid p := Lib.hid h
theorem bR_ {B : Nat} {w : World} : Below B w w := Below.refl _ _
theorem nR_ {n : Nat} : n ≤ n := Nat.le_refl _
theorem bL_ {w : World} {o : Obj} : Below w.heap.size w (w.alloc o) := (Below.refl _ _).alloc (Nat.le_refl _) _
end Go.Proofs.YtenebmeaoidnoaaGreatDoor
