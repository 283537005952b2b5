/-
  No cell of these rows narrows 'for every input' (looked for: loops, veiled, ifaces, maps, wideKeys, modest, calm, conditions, laid).
  DERIVED. THE GIVEN ROWS OF THIS SEAT. 8 by the template 'for every input the law returns true; each argument reads behind the call as it read before'; 0 by the template 'total and deterministic' (their statements: YtdmjpikkgfedmaaTotals.lean).
  GIVEN WITH THE SEED: the statements are not yours to turn. If you find one false, say at which input.
  Laid BY PROGRAM, IN A SANDBOX (cutbox-rows.mjs): the forced cells as the released guide's own fill.sh prints them over the translation 74dba3c6abdaa368… (all of the seat's roots in one cut). By AI agents, Wed Nov 11 2026. No macro, syntax, notation, axiom, sorry.
-/
import Derived.Test.YtdmjpikkgfedmaaChecked
import GoSem.Claim
import GoSem.ClaimJoined
import GoSem.ClaimMapViews
import Derived.JoinedTies
import Derived.KernelRfl
namespace Go.Proofs.Ytdmjpikkgfedmaa
/- THE CELL 'sum', in the pinned program and in every row, IS THE sha256 OF THE DUMP (.gsa) THAT YtdmjpikkgfedmaaProg.lean LOADS. Nothing in Lean hashes anything: it is a label: what it is worth is what the hold of that sum in a sandbox is worth. -/
noncomputable def Try.pinned : Pinned := { name := "ytdmjpikkgfedmaa", sum := "74dba3c6abdaa3681b499fa6a6f69e106687cd3ab0a748047658cfb6c7a6cdfd", checked := Try.checked }
namespace Rows
def none {H : Type} : Left H := { results := [], args := [] }

/-- 'laws.FnFaultsAgain': WHATEVER THE INPUT: true; the input reads as it did. -/
def fnFaultsAgainSpec : ChangeSpec := { name := "fnFaultsAgain", fn := fun _ => fun
  | [d1, d2] => { results := [.lit (.bool true)], args := [d1, d2] }
  | _ => none }
def fnFaultsAgainRow : OpenClaim := { program := "ytdmjpikkgfedmaa", sum := "74dba3c6abdaa3681b499fa6a6f69e106687cd3ab0a748047658cfb6c7a6cdfd", func := "loop.example/exopager/laws.FnFaultsAgain", spec := "fnFaultsAgain", unfollowed := true, recurses := true, apart := false }
def FnFaultsAgainSaid : Prop := fnFaultsAgainRow.holds Try.pinned (OpenSpec.ofChange fnFaultsAgainSpec)

/-- ITS FALSE NEIGHBOUR: 'it returns false'. Refute it at one input. -/
def fnFaultsAgainWrong : ChangeSpec := { name := "fnFaultsAgain", fn := fun _ => fun
  | [d1, d2] => { results := [.lit (.bool false)], args := [d1, d2] }
  | _ => none }
def FnFaultsAgainWrongFalsely : Prop := fnFaultsAgainRow.holds Try.pinned (OpenSpec.ofChange fnFaultsAgainWrong)

/-- 'laws.FnFaultsBegin': WHATEVER THE INPUT: true; the input reads as it did. -/
def fnFaultsBeginSpec : ChangeSpec := { name := "fnFaultsBegin", fn := fun _ => fun
  | [d1, d2] => { results := [.lit (.bool true)], args := [d1, d2] }
  | _ => none }
def fnFaultsBeginRow : OpenClaim := { program := "ytdmjpikkgfedmaa", sum := "74dba3c6abdaa3681b499fa6a6f69e106687cd3ab0a748047658cfb6c7a6cdfd", func := "loop.example/exopager/laws.FnFaultsBegin", spec := "fnFaultsBegin", unfollowed := true, recurses := true, apart := false }
def FnFaultsBeginSaid : Prop := fnFaultsBeginRow.holds Try.pinned (OpenSpec.ofChange fnFaultsBeginSpec)

/-- ITS FALSE NEIGHBOUR: 'it returns false'. Refute it at one input. -/
def fnFaultsBeginWrong : ChangeSpec := { name := "fnFaultsBegin", fn := fun _ => fun
  | [d1, d2] => { results := [.lit (.bool false)], args := [d1, d2] }
  | _ => none }
def FnFaultsBeginWrongFalsely : Prop := fnFaultsBeginRow.holds Try.pinned (OpenSpec.ofChange fnFaultsBeginWrong)

/-- 'laws.FnFaultsNames': WHATEVER THE INPUT: true; the input reads as it did. -/
def fnFaultsNamesSpec : ChangeSpec := { name := "fnFaultsNames", fn := fun _ => fun
  | [d] => { results := [.lit (.bool true)], args := [d] }
  | _ => none }
def fnFaultsNamesRow : OpenClaim := { program := "ytdmjpikkgfedmaa", sum := "74dba3c6abdaa3681b499fa6a6f69e106687cd3ab0a748047658cfb6c7a6cdfd", func := "loop.example/exopager/laws.FnFaultsNames", spec := "fnFaultsNames", unfollowed := true, recurses := true, apart := false }
def FnFaultsNamesSaid : Prop := fnFaultsNamesRow.holds Try.pinned (OpenSpec.ofChange fnFaultsNamesSpec)

/-- ITS FALSE NEIGHBOUR: 'it returns false'. Refute it at one input. -/
def fnFaultsNamesWrong : ChangeSpec := { name := "fnFaultsNames", fn := fun _ => fun
  | [d] => { results := [.lit (.bool false)], args := [d] }
  | _ => none }
def FnFaultsNamesWrongFalsely : Prop := fnFaultsNamesRow.holds Try.pinned (OpenSpec.ofChange fnFaultsNamesWrong)

/-- 'laws.FnFaultsOne': WHATEVER THE INPUT: true; the input reads as it did. -/
def fnFaultsOneSpec : ChangeSpec := { name := "fnFaultsOne", fn := fun _ => fun
  | [d] => { results := [.lit (.bool true)], args := [d] }
  | _ => none }
def fnFaultsOneRow : OpenClaim := { program := "ytdmjpikkgfedmaa", sum := "74dba3c6abdaa3681b499fa6a6f69e106687cd3ab0a748047658cfb6c7a6cdfd", func := "loop.example/exopager/laws.FnFaultsOne", spec := "fnFaultsOne", unfollowed := true, recurses := true, apart := false }
def FnFaultsOneSaid : Prop := fnFaultsOneRow.holds Try.pinned (OpenSpec.ofChange fnFaultsOneSpec)

/-- ITS FALSE NEIGHBOUR: 'it returns false'. Refute it at one input. -/
def fnFaultsOneWrong : ChangeSpec := { name := "fnFaultsOne", fn := fun _ => fun
  | [d] => { results := [.lit (.bool false)], args := [d] }
  | _ => none }
def FnFaultsOneWrongFalsely : Prop := fnFaultsOneRow.holds Try.pinned (OpenSpec.ofChange fnFaultsOneWrong)

/-- 'laws.FnFaultsLastMore': WHATEVER THE INPUT: true; the input reads as it did. -/
def fnFaultsLastMoreSpec : ChangeSpec := { name := "fnFaultsLastMore", fn := fun _ => fun
  | [d] => { results := [.lit (.bool true)], args := [d] }
  | _ => none }
def fnFaultsLastMoreRow : OpenClaim := { program := "ytdmjpikkgfedmaa", sum := "74dba3c6abdaa3681b499fa6a6f69e106687cd3ab0a748047658cfb6c7a6cdfd", func := "loop.example/exopager/laws.FnFaultsLastMore", spec := "fnFaultsLastMore", unfollowed := true, recurses := true, apart := false }
def FnFaultsLastMoreSaid : Prop := fnFaultsLastMoreRow.holds Try.pinned (OpenSpec.ofChange fnFaultsLastMoreSpec)

/-- ITS FALSE NEIGHBOUR: 'it returns false'. Refute it at one input. -/
def fnFaultsLastMoreWrong : ChangeSpec := { name := "fnFaultsLastMore", fn := fun _ => fun
  | [d] => { results := [.lit (.bool false)], args := [d] }
  | _ => none }
def FnFaultsLastMoreWrongFalsely : Prop := fnFaultsLastMoreRow.holds Try.pinned (OpenSpec.ofChange fnFaultsLastMoreWrong)

/-- 'laws.FnFaultsLast': WHATEVER THE INPUT: true; the input reads as it did. -/
def fnFaultsLastSpec : ChangeSpec := { name := "fnFaultsLast", fn := fun _ => fun
  | [d] => { results := [.lit (.bool true)], args := [d] }
  | _ => none }
def fnFaultsLastRow : OpenClaim := { program := "ytdmjpikkgfedmaa", sum := "74dba3c6abdaa3681b499fa6a6f69e106687cd3ab0a748047658cfb6c7a6cdfd", func := "loop.example/exopager/laws.FnFaultsLast", spec := "fnFaultsLast", unfollowed := true, recurses := true, apart := false }
def FnFaultsLastSaid : Prop := fnFaultsLastRow.holds Try.pinned (OpenSpec.ofChange fnFaultsLastSpec)

/-- ITS FALSE NEIGHBOUR: 'it returns false'. Refute it at one input. -/
def fnFaultsLastWrong : ChangeSpec := { name := "fnFaultsLast", fn := fun _ => fun
  | [d] => { results := [.lit (.bool false)], args := [d] }
  | _ => none }
def FnFaultsLastWrongFalsely : Prop := fnFaultsLastRow.holds Try.pinned (OpenSpec.ofChange fnFaultsLastWrong)

/-- 'laws.FnFaultsBest': WHATEVER THE INPUT: true; the input reads as it did. -/
def fnFaultsBestSpec : ChangeSpec := { name := "fnFaultsBest", fn := fun _ => fun
  | [d] => { results := [.lit (.bool true)], args := [d] }
  | _ => none }
def fnFaultsBestRow : OpenClaim := { program := "ytdmjpikkgfedmaa", sum := "74dba3c6abdaa3681b499fa6a6f69e106687cd3ab0a748047658cfb6c7a6cdfd", func := "loop.example/exopager/laws.FnFaultsBest", spec := "fnFaultsBest", unfollowed := true, recurses := true, apart := false }
def FnFaultsBestSaid : Prop := fnFaultsBestRow.holds Try.pinned (OpenSpec.ofChange fnFaultsBestSpec)

/-- ITS FALSE NEIGHBOUR: 'it returns false'. Refute it at one input. -/
def fnFaultsBestWrong : ChangeSpec := { name := "fnFaultsBest", fn := fun _ => fun
  | [d] => { results := [.lit (.bool false)], args := [d] }
  | _ => none }
def FnFaultsBestWrongFalsely : Prop := fnFaultsBestRow.holds Try.pinned (OpenSpec.ofChange fnFaultsBestWrong)

/-- 'laws.FnFaultsLeast': WHATEVER THE INPUT: true; the input reads as it did. -/
def fnFaultsLeastSpec : ChangeSpec := { name := "fnFaultsLeast", fn := fun _ => fun
  | [d] => { results := [.lit (.bool true)], args := [d] }
  | _ => none }
def fnFaultsLeastRow : OpenClaim := { program := "ytdmjpikkgfedmaa", sum := "74dba3c6abdaa3681b499fa6a6f69e106687cd3ab0a748047658cfb6c7a6cdfd", func := "loop.example/exopager/laws.FnFaultsLeast", spec := "fnFaultsLeast", unfollowed := true, recurses := true, apart := false }
def FnFaultsLeastSaid : Prop := fnFaultsLeastRow.holds Try.pinned (OpenSpec.ofChange fnFaultsLeastSpec)

/-- ITS FALSE NEIGHBOUR: 'it returns false'. Refute it at one input. -/
def fnFaultsLeastWrong : ChangeSpec := { name := "fnFaultsLeast", fn := fun _ => fun
  | [d] => { results := [.lit (.bool false)], args := [d] }
  | _ => none }
def FnFaultsLeastWrongFalsely : Prop := fnFaultsLeastRow.holds Try.pinned (OpenSpec.ofChange fnFaultsLeastWrong)

/- THE SECOND FORM. 'bulk': how many values and letters a reading holds, each counted each time it is reached (what is shared counts as often as it is met; a slice's spare places count too). A statement '..UptoSaid' is the law's where the arguments, and the package variables that the reading takes, are together of bulk at most 1048576: NARROWER than '..Said'. Prove '..Said' where nothing that the law and all that it calls make is longer than what came in: it says more and counts as full. Else prove '..UptoSaid'. A law counts once. -/
mutual
def uptoBulk {H : Type} : DataW H → Nat
  | .lit (.string bytes) => bytes.length + 1
  | .lit _ => 1
  | .nil => 1
  | .ptr d => uptoBulk d + 1
  | .slice elems spare => uptoBulkAll elems + uptoBulkAll spare + 1
  | .agg parts => uptoBulkAll parts + 1
  | .iface _ d => uptoBulk d + 1
  | .map entries => uptoBulkEntries entries + 1
  | .held _ => 1
def uptoBulkAll {H : Type} : List (DataW H) → Nat
  | [] => 0
  | d :: r => uptoBulk d + uptoBulkAll r
def uptoBulkEntries {H : Type} : List (Lit × DataW H) → Nat
  | [] => 0
  | x :: r => uptoBulkEntry x + uptoBulkEntries r
def uptoBulkEntry {H : Type} : Lit × DataW H → Nat
  | (.string bytes, d) => bytes.length + uptoBulk d + 1
  | (_, d) => uptoBulk d + 1
 end
def uptoSmall : (H : Type) → List (DataW H) → Bool := fun _ ds => decide (uptoBulkAll ds ≤ 1048576)
def OpenSpec.upto (s : _root_.Go.ChangeSpec) : _root_.Go.OpenSpec := { _root_.Go.OpenSpec.ofChange s with cond := some uptoSmall }

/-- 'laws.FnFaultsAgain', WHERE WHAT IT READS IS OF BULK AT MOST 1048576: true; the input reads as it did. -/
def fnFaultsAgainUptoRow : OpenClaim := { program := "ytdmjpikkgfedmaa", sum := "74dba3c6abdaa3681b499fa6a6f69e106687cd3ab0a748047658cfb6c7a6cdfd", func := "loop.example/exopager/laws.FnFaultsAgain", spec := "fnFaultsAgain", unfollowed := true, recurses := true, apart := false, narrowed := true }
def FnFaultsAgainUptoSaid : Prop := fnFaultsAgainUptoRow.holds Try.pinned (OpenSpec.upto fnFaultsAgainSpec)

/-- 'laws.FnFaultsBegin', WHERE WHAT IT READS IS OF BULK AT MOST 1048576: true; the input reads as it did. -/
def fnFaultsBeginUptoRow : OpenClaim := { program := "ytdmjpikkgfedmaa", sum := "74dba3c6abdaa3681b499fa6a6f69e106687cd3ab0a748047658cfb6c7a6cdfd", func := "loop.example/exopager/laws.FnFaultsBegin", spec := "fnFaultsBegin", unfollowed := true, recurses := true, apart := false, narrowed := true }
def FnFaultsBeginUptoSaid : Prop := fnFaultsBeginUptoRow.holds Try.pinned (OpenSpec.upto fnFaultsBeginSpec)

/-- 'laws.FnFaultsNames', WHERE WHAT IT READS IS OF BULK AT MOST 1048576: true; the input reads as it did. -/
def fnFaultsNamesUptoRow : OpenClaim := { program := "ytdmjpikkgfedmaa", sum := "74dba3c6abdaa3681b499fa6a6f69e106687cd3ab0a748047658cfb6c7a6cdfd", func := "loop.example/exopager/laws.FnFaultsNames", spec := "fnFaultsNames", unfollowed := true, recurses := true, apart := false, narrowed := true }
def FnFaultsNamesUptoSaid : Prop := fnFaultsNamesUptoRow.holds Try.pinned (OpenSpec.upto fnFaultsNamesSpec)

/-- 'laws.FnFaultsOne', WHERE WHAT IT READS IS OF BULK AT MOST 1048576: true; the input reads as it did. -/
def fnFaultsOneUptoRow : OpenClaim := { program := "ytdmjpikkgfedmaa", sum := "74dba3c6abdaa3681b499fa6a6f69e106687cd3ab0a748047658cfb6c7a6cdfd", func := "loop.example/exopager/laws.FnFaultsOne", spec := "fnFaultsOne", unfollowed := true, recurses := true, apart := false, narrowed := true }
def FnFaultsOneUptoSaid : Prop := fnFaultsOneUptoRow.holds Try.pinned (OpenSpec.upto fnFaultsOneSpec)

/-- 'laws.FnFaultsLastMore', WHERE WHAT IT READS IS OF BULK AT MOST 1048576: true; the input reads as it did. -/
def fnFaultsLastMoreUptoRow : OpenClaim := { program := "ytdmjpikkgfedmaa", sum := "74dba3c6abdaa3681b499fa6a6f69e106687cd3ab0a748047658cfb6c7a6cdfd", func := "loop.example/exopager/laws.FnFaultsLastMore", spec := "fnFaultsLastMore", unfollowed := true, recurses := true, apart := false, narrowed := true }
def FnFaultsLastMoreUptoSaid : Prop := fnFaultsLastMoreUptoRow.holds Try.pinned (OpenSpec.upto fnFaultsLastMoreSpec)

/-- 'laws.FnFaultsLast', WHERE WHAT IT READS IS OF BULK AT MOST 1048576: true; the input reads as it did. -/
def fnFaultsLastUptoRow : OpenClaim := { program := "ytdmjpikkgfedmaa", sum := "74dba3c6abdaa3681b499fa6a6f69e106687cd3ab0a748047658cfb6c7a6cdfd", func := "loop.example/exopager/laws.FnFaultsLast", spec := "fnFaultsLast", unfollowed := true, recurses := true, apart := false, narrowed := true }
def FnFaultsLastUptoSaid : Prop := fnFaultsLastUptoRow.holds Try.pinned (OpenSpec.upto fnFaultsLastSpec)

/-- 'laws.FnFaultsBest', WHERE WHAT IT READS IS OF BULK AT MOST 1048576: true; the input reads as it did. -/
def fnFaultsBestUptoRow : OpenClaim := { program := "ytdmjpikkgfedmaa", sum := "74dba3c6abdaa3681b499fa6a6f69e106687cd3ab0a748047658cfb6c7a6cdfd", func := "loop.example/exopager/laws.FnFaultsBest", spec := "fnFaultsBest", unfollowed := true, recurses := true, apart := false, narrowed := true }
def FnFaultsBestUptoSaid : Prop := fnFaultsBestUptoRow.holds Try.pinned (OpenSpec.upto fnFaultsBestSpec)

/-- 'laws.FnFaultsLeast', WHERE WHAT IT READS IS OF BULK AT MOST 1048576: true; the input reads as it did. -/
def fnFaultsLeastUptoRow : OpenClaim := { program := "ytdmjpikkgfedmaa", sum := "74dba3c6abdaa3681b499fa6a6f69e106687cd3ab0a748047658cfb6c7a6cdfd", func := "loop.example/exopager/laws.FnFaultsLeast", spec := "fnFaultsLeast", unfollowed := true, recurses := true, apart := false, narrowed := true }
def FnFaultsLeastUptoSaid : Prop := fnFaultsLeastUptoRow.holds Try.pinned (OpenSpec.upto fnFaultsLeastSpec)

end Rows
end Go.Proofs.Ytdmjpikkgfedmaa
