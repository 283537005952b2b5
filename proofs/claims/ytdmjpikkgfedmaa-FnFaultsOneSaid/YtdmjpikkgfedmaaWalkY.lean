/- Contracts: draws of traces, of numbers of frames. -/
import Derived.Test.YtdmjpikkgfedmaaWalkX
namespace Go.Proofs.Ytdmjpikkgfedmaa
open Go.RowKit


/-- A call of a draw of numbers and of one number. -/
def DrewIn (m : Nat) (w : World) (e : Ending) (w' : World) : Prop := ∃ u xs f, e = .returned (.tuple #[u, .int .i64 f]) ∧ RI w' u xs ∧ xs.length ≤ m ∧ CapOk u ∧ 0 ≤ f ∧ f ≤ 13 ∧ Below w.heap.size w w'
end Go.Proofs.Ytdmjpikkgfedmaa
