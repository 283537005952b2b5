/- Short names. -/
import Derived.Test.YtliebkfligagnaaGreatDoorRows
import Derived.Lib.Hide
namespace Go.Proofs.YtliebkfligagnaaGreatDoor
open Go.RowKit
theorem af {p : Prop} (h : p) : Hid p := Lib.hid h
theorem fZ {B : Nat} {w : World} : Below B w w := Below.refl _ _
theorem aW {n : Nat} : n ≤ n := Nat.le_refl _
theorem dm {w : World} {o : Obj} : Below w.heap.size w (w.alloc o) := (Below.refl _ _).alloc (Nat.le_refl _) _
end Go.Proofs.YtliebkfligagnaaGreatDoor
