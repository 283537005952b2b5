/- Contracts: a number in a list, a list that ascends (the laws' own). -/
import Derived.IntWalk
import Derived.Test.YtecnmehlbfklnaaGreatDoorBase
set_option linter.all false
namespace Go.Proofs.YtecnmehlbfklnaaGreatDoor
open Go.RowKit
def aez (w:World) (e:Ending) (w':World):Prop:=e=.returned (.bool true)/\Below w.heap.size w w'
end Go.Proofs.YtecnmehlbfklnaaGreatDoor
