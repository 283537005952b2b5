/-
  No cell of these rows narrows 'for every input' (looked for: loops, veiled, ifaces, maps, wideKeys, modest, calm, conditions, laid).
  DERIVED. THE GIVEN ROWS OF THIS SEAT. 6 by the template 'for every input the law returns true; each argument reads behind the call as it read before'; 0 by the template 'total and deterministic' (their statements: YtachjkecgbfddaaTotals.lean).
  GIVEN WITH THE SEED: the statements are not yours to turn. If you find one false, say at which input.
  Laid BY PROGRAM, IN A SANDBOX (cutbox-rows.mjs): the forced cells as the released guide's own fill.sh prints them over the translation b73b4561aaf3f070… (all of the seat's roots in one cut). By AI agents, Wed Nov 11 2026. No macro, syntax, notation, axiom, sorry.
-/
import Derived.Test.YtachjkecgbfddaaChecked
import GoSem.Claim
import GoSem.ClaimJoined
import GoSem.ClaimMapViews
import Derived.JoinedTies
import Derived.KernelRfl
namespace Go.Proofs.Ytachjkecgbfddaa
/- THE CELL 'sum', in the pinned program and in every row, IS THE sha256 OF THE DUMP (.gsa) THAT YtachjkecgbfddaaProg.lean LOADS. Nothing in Lean hashes anything: it is a label: what it is worth is what the hold of that sum in a sandbox is worth. -/
noncomputable def Try.pinned : Pinned := { name := "ytachjkecgbfddaa", sum := "b73b4561aaf3f070c7aac24392badccd0e4aeb30c377845e0b0c41715a33abb6", checked := Try.checked }
namespace Rows
def none {H : Type} : Left H := { results := [], args := [] }

/-- 'laws.FnExactTraceValid': WHATEVER THE INPUT: true; the input reads as it did. -/
def fnExactTraceValidSpec : ChangeSpec := { name := "fnExactTraceValid", fn := fun _ => fun
  | [d] => { results := [.lit (.bool true)], args := [d] }
  | _ => none }
def fnExactTraceValidRow : OpenClaim := { program := "ytachjkecgbfddaa", sum := "b73b4561aaf3f070c7aac24392badccd0e4aeb30c377845e0b0c41715a33abb6", func := "loop.example/exopager/laws.FnExactTraceValid", spec := "fnExactTraceValid", unfollowed := true, recurses := true, apart := false }
def FnExactTraceValidSaid : Prop := fnExactTraceValidRow.holds Try.pinned (OpenSpec.ofChange fnExactTraceValidSpec)

/-- ITS FALSE NEIGHBOUR: 'it returns false'. Refute it at one input. -/
def fnExactTraceValidWrong : ChangeSpec := { name := "fnExactTraceValid", fn := fun _ => fun
  | [d] => { results := [.lit (.bool false)], args := [d] }
  | _ => none }
def FnExactTraceValidWrongFalsely : Prop := fnExactTraceValidRow.holds Try.pinned (OpenSpec.ofChange fnExactTraceValidWrong)

/-- 'laws.FnExactPageSum': WHATEVER THE INPUT: true; the input reads as it did. -/
def fnExactPageSumSpec : ChangeSpec := { name := "fnExactPageSum", fn := fun _ => fun
  | [d] => { results := [.lit (.bool true)], args := [d] }
  | _ => none }
def fnExactPageSumRow : OpenClaim := { program := "ytachjkecgbfddaa", sum := "b73b4561aaf3f070c7aac24392badccd0e4aeb30c377845e0b0c41715a33abb6", func := "loop.example/exopager/laws.FnExactPageSum", spec := "fnExactPageSum", unfollowed := true, recurses := true, apart := false }
def FnExactPageSumSaid : Prop := fnExactPageSumRow.holds Try.pinned (OpenSpec.ofChange fnExactPageSumSpec)

/-- ITS FALSE NEIGHBOUR: 'it returns false'. Refute it at one input. -/
def fnExactPageSumWrong : ChangeSpec := { name := "fnExactPageSum", fn := fun _ => fun
  | [d] => { results := [.lit (.bool false)], args := [d] }
  | _ => none }
def FnExactPageSumWrongFalsely : Prop := fnExactPageSumRow.holds Try.pinned (OpenSpec.ofChange fnExactPageSumWrong)

/-- 'laws.FnPageSum': WHATEVER THE INPUT: true; the input reads as it did. -/
def fnPageSumSpec : ChangeSpec := { name := "fnPageSum", fn := fun _ => fun
  | [d1, d2] => { results := [.lit (.bool true)], args := [d1, d2] }
  | _ => none }
def fnPageSumRow : OpenClaim := { program := "ytachjkecgbfddaa", sum := "b73b4561aaf3f070c7aac24392badccd0e4aeb30c377845e0b0c41715a33abb6", func := "loop.example/exopager/laws.FnPageSum", spec := "fnPageSum", unfollowed := true, recurses := true, apart := false }
def FnPageSumSaid : Prop := fnPageSumRow.holds Try.pinned (OpenSpec.ofChange fnPageSumSpec)

/-- ITS FALSE NEIGHBOUR: 'it returns false'. Refute it at one input. -/
def fnPageSumWrong : ChangeSpec := { name := "fnPageSum", fn := fun _ => fun
  | [d1, d2] => { results := [.lit (.bool false)], args := [d1, d2] }
  | _ => none }
def FnPageSumWrongFalsely : Prop := fnPageSumRow.holds Try.pinned (OpenSpec.ofChange fnPageSumWrong)

/-- 'laws.FnExactPageDiff': WHATEVER THE INPUT: true; the input reads as it did. -/
def fnExactPageDiffSpec : ChangeSpec := { name := "fnExactPageDiff", fn := fun _ => fun
  | [d1, d2] => { results := [.lit (.bool true)], args := [d1, d2] }
  | _ => none }
def fnExactPageDiffRow : OpenClaim := { program := "ytachjkecgbfddaa", sum := "b73b4561aaf3f070c7aac24392badccd0e4aeb30c377845e0b0c41715a33abb6", func := "loop.example/exopager/laws.FnExactPageDiff", spec := "fnExactPageDiff", unfollowed := true, recurses := true, apart := false }
def FnExactPageDiffSaid : Prop := fnExactPageDiffRow.holds Try.pinned (OpenSpec.ofChange fnExactPageDiffSpec)

/-- ITS FALSE NEIGHBOUR: 'it returns false'. Refute it at one input. -/
def fnExactPageDiffWrong : ChangeSpec := { name := "fnExactPageDiff", fn := fun _ => fun
  | [d1, d2] => { results := [.lit (.bool false)], args := [d1, d2] }
  | _ => none }
def FnExactPageDiffWrongFalsely : Prop := fnExactPageDiffRow.holds Try.pinned (OpenSpec.ofChange fnExactPageDiffWrong)

/-- 'laws.FnExactPagePack': WHATEVER THE INPUT: true; the input reads as it did. -/
def fnExactPagePackSpec : ChangeSpec := { name := "fnExactPagePack", fn := fun _ => fun
  | [d] => { results := [.lit (.bool true)], args := [d] }
  | _ => none }
def fnExactPagePackRow : OpenClaim := { program := "ytachjkecgbfddaa", sum := "b73b4561aaf3f070c7aac24392badccd0e4aeb30c377845e0b0c41715a33abb6", func := "loop.example/exopager/laws.FnExactPagePack", spec := "fnExactPagePack", unfollowed := true, recurses := true, apart := false }
def FnExactPagePackSaid : Prop := fnExactPagePackRow.holds Try.pinned (OpenSpec.ofChange fnExactPagePackSpec)

/-- ITS FALSE NEIGHBOUR: 'it returns false'. Refute it at one input. -/
def fnExactPagePackWrong : ChangeSpec := { name := "fnExactPagePack", fn := fun _ => fun
  | [d] => { results := [.lit (.bool false)], args := [d] }
  | _ => none }
def FnExactPagePackWrongFalsely : Prop := fnExactPagePackRow.holds Try.pinned (OpenSpec.ofChange fnExactPagePackWrong)

/-- 'laws.FnPackPairs': WHATEVER THE INPUT: true; the input reads as it did. -/
def fnPackPairsSpec : ChangeSpec := { name := "fnPackPairs", fn := fun _ => fun
  | [d] => { results := [.lit (.bool true)], args := [d] }
  | _ => none }
def fnPackPairsRow : OpenClaim := { program := "ytachjkecgbfddaa", sum := "b73b4561aaf3f070c7aac24392badccd0e4aeb30c377845e0b0c41715a33abb6", func := "loop.example/exopager/laws.FnPackPairs", spec := "fnPackPairs", unfollowed := true, recurses := true, apart := false }
def FnPackPairsSaid : Prop := fnPackPairsRow.holds Try.pinned (OpenSpec.ofChange fnPackPairsSpec)

/-- ITS FALSE NEIGHBOUR: 'it returns false'. Refute it at one input. -/
def fnPackPairsWrong : ChangeSpec := { name := "fnPackPairs", fn := fun _ => fun
  | [d] => { results := [.lit (.bool false)], args := [d] }
  | _ => none }
def FnPackPairsWrongFalsely : Prop := fnPackPairsRow.holds Try.pinned (OpenSpec.ofChange fnPackPairsWrong)

/- THE SECOND FORM. 'bulk': how many values and letters a reading holds, each counted each time it is reached (what is shared counts as often as it is met; a slice's spare places count too). A statement '..UptoSaid' is the law's where the arguments, and the package variables that the reading takes, are together of bulk at most 1048576: NARROWER than '..Said'. Prove '..Said' where nothing that the law and all that it calls make is longer than what came in: it says more and counts as full. Else prove '..UptoSaid'. A law counts once. -/
mutual
def uptoBulk {H : Type} : DataW H → Nat
  | .lit (.string bytes) => bytes.length + 1
  | .lit _ => 1
  | .nil => 1
  | .ptr d => uptoBulk d + 1
  | .slice elems spare => uptoBulkAll elems + uptoBulkAll spare + 1
  | .agg parts => uptoBulkAll parts + 1
  | .iface _ d => uptoBulk d + 1
  | .map entries => uptoBulkEntries entries + 1
  | .held _ => 1
def uptoBulkAll {H : Type} : List (DataW H) → Nat
  | [] => 0
  | d :: r => uptoBulk d + uptoBulkAll r
def uptoBulkEntries {H : Type} : List (Lit × DataW H) → Nat
  | [] => 0
  | x :: r => uptoBulkEntry x + uptoBulkEntries r
def uptoBulkEntry {H : Type} : Lit × DataW H → Nat
  | (.string bytes, d) => bytes.length + uptoBulk d + 1
  | (_, d) => uptoBulk d + 1
 end
def uptoSmall : (H : Type) → List (DataW H) → Bool := fun _ ds => decide (uptoBulkAll ds ≤ 1048576)
def OpenSpec.upto (s : _root_.Go.ChangeSpec) : _root_.Go.OpenSpec := { _root_.Go.OpenSpec.ofChange s with cond := some uptoSmall }

/-- 'laws.FnExactTraceValid', WHERE WHAT IT READS IS OF BULK AT MOST 1048576: true; the input reads as it did. -/
def fnExactTraceValidUptoRow : OpenClaim := { program := "ytachjkecgbfddaa", sum := "b73b4561aaf3f070c7aac24392badccd0e4aeb30c377845e0b0c41715a33abb6", func := "loop.example/exopager/laws.FnExactTraceValid", spec := "fnExactTraceValid", unfollowed := true, recurses := true, apart := false, narrowed := true }
def FnExactTraceValidUptoSaid : Prop := fnExactTraceValidUptoRow.holds Try.pinned (OpenSpec.upto fnExactTraceValidSpec)

/-- 'laws.FnExactPageSum', WHERE WHAT IT READS IS OF BULK AT MOST 1048576: true; the input reads as it did. -/
def fnExactPageSumUptoRow : OpenClaim := { program := "ytachjkecgbfddaa", sum := "b73b4561aaf3f070c7aac24392badccd0e4aeb30c377845e0b0c41715a33abb6", func := "loop.example/exopager/laws.FnExactPageSum", spec := "fnExactPageSum", unfollowed := true, recurses := true, apart := false, narrowed := true }
def FnExactPageSumUptoSaid : Prop := fnExactPageSumUptoRow.holds Try.pinned (OpenSpec.upto fnExactPageSumSpec)

/-- 'laws.FnPageSum', WHERE WHAT IT READS IS OF BULK AT MOST 1048576: true; the input reads as it did. -/
def fnPageSumUptoRow : OpenClaim := { program := "ytachjkecgbfddaa", sum := "b73b4561aaf3f070c7aac24392badccd0e4aeb30c377845e0b0c41715a33abb6", func := "loop.example/exopager/laws.FnPageSum", spec := "fnPageSum", unfollowed := true, recurses := true, apart := false, narrowed := true }
def FnPageSumUptoSaid : Prop := fnPageSumUptoRow.holds Try.pinned (OpenSpec.upto fnPageSumSpec)

/-- 'laws.FnExactPageDiff', WHERE WHAT IT READS IS OF BULK AT MOST 1048576: true; the input reads as it did. -/
def fnExactPageDiffUptoRow : OpenClaim := { program := "ytachjkecgbfddaa", sum := "b73b4561aaf3f070c7aac24392badccd0e4aeb30c377845e0b0c41715a33abb6", func := "loop.example/exopager/laws.FnExactPageDiff", spec := "fnExactPageDiff", unfollowed := true, recurses := true, apart := false, narrowed := true }
def FnExactPageDiffUptoSaid : Prop := fnExactPageDiffUptoRow.holds Try.pinned (OpenSpec.upto fnExactPageDiffSpec)

/-- 'laws.FnExactPagePack', WHERE WHAT IT READS IS OF BULK AT MOST 1048576: true; the input reads as it did. -/
def fnExactPagePackUptoRow : OpenClaim := { program := "ytachjkecgbfddaa", sum := "b73b4561aaf3f070c7aac24392badccd0e4aeb30c377845e0b0c41715a33abb6", func := "loop.example/exopager/laws.FnExactPagePack", spec := "fnExactPagePack", unfollowed := true, recurses := true, apart := false, narrowed := true }
def FnExactPagePackUptoSaid : Prop := fnExactPagePackUptoRow.holds Try.pinned (OpenSpec.upto fnExactPagePackSpec)

/-- 'laws.FnPackPairs', WHERE WHAT IT READS IS OF BULK AT MOST 1048576: true; the input reads as it did. -/
def fnPackPairsUptoRow : OpenClaim := { program := "ytachjkecgbfddaa", sum := "b73b4561aaf3f070c7aac24392badccd0e4aeb30c377845e0b0c41715a33abb6", func := "loop.example/exopager/laws.FnPackPairs", spec := "fnPackPairs", unfollowed := true, recurses := true, apart := false, narrowed := true }
def FnPackPairsUptoSaid : Prop := fnPackPairsUptoRow.holds Try.pinned (OpenSpec.upto fnPackPairsSpec)

end Rows
end Go.Proofs.Ytachjkecgbfddaa
