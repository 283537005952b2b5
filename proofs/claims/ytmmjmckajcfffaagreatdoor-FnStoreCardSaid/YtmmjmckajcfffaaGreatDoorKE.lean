/- Contracts: a number in a list, a list that ascends (the laws' own). -/
import Derived.IntWalk
import Derived.Test.YtmmjmckajcfffaaGreatDoorBase
set_option maxHeartbeats 400000
set_option linter.all false
open Go.Proofs.Tryz
namespace Go.Proofs.YtmmjmckajcfffaaGreatDoor
open Go.RowKit
def aez (w:World) (e:Ending) (w':World):Prop:=e=.returned (.bool true)/\Below w.heap.size w w'
end Go.Proofs.YtmmjmckajcfffaaGreatDoor
