/- Contracts: spec.KernelReach. (printed by kw22.py) -/
import Derived.Test.YtfnpjdgjceiklaaGreatDoorKW21
namespace Go.Proofs.YtfnpjdgjceiklaaGreatDoor
open Go.RowKit

def kreach (k : Kx.Kernel) (env : Int) : List Nat := if !Kx.kernelOk k || !Kx.inR env 0 2 then [] else Kx.reach k.mem (Kx.envAt k.envs env.toNat).root
end Go.Proofs.YtfnpjdgjceiklaaGreatDoor
