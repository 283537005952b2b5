/- Closed facts of the program that the laws of this seat share: their kernel checks pass the memory limit if one text holds them all. -/
import Derived.Test.YtmmjmckajcfffaaGreatDoorRows
import Derived.Test.YtmmjmckajcfffaaGreatDoorTie
import Derived.ProofKit
import Derived.Stop.Joined
namespace Go.Proofs.YtmmjmckajcfffaaGreatDoor
open Go.RowKit

set_option maxHeartbeats 8000000 in
theorem prMay : Tryz.pinned.checked.prog.mayEnter = true := by kernel_rfl
set_option maxHeartbeats 8000000 in
theorem prLaid : laidOutB Tryz.pinned.checked.prog = true := by kernel_rfl
set_option maxHeartbeats 8000000 in
theorem prLift : (false == Tryz.pinned.checked.prog.liftsFinal) = true := by kernel_rfl
set_option maxHeartbeats 8000000 in
theorem prMake : (Tryz.pinned.checked.prog.make == some .cut) = true := by kernel_rfl
end Go.Proofs.YtmmjmckajcfffaaGreatDoor
