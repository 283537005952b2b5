/-
  No cell of these rows narrows 'for every input' (looked for: loops, veiled, ifaces, maps, wideKeys, modest, calm, conditions, laid).
  DERIVED. THE GIVEN ROWS OF THIS SEAT. 6 by the template 'for every input the law returns true; each argument reads behind the call as it read before'; 0 by the template 'total and deterministic' (their statements: YtnohlcffmikecaaTotals.lean).
  GIVEN WITH THE SEED: the statements are not yours to turn. If you find one false, say at which input.
  Laid BY PROGRAM, IN A SANDBOX (cutbox-rows.mjs): the forced cells as the released guide's own fill.sh prints them over the translation bd9ce2a9d241577a… (all of the seat's roots in one cut). By AI agents, Wed Nov 11 2026. No macro, syntax, notation, axiom, sorry.
-/
import Derived.Test.YtnohlcffmikecaaChecked
import GoSem.Claim
import GoSem.ClaimJoined
import GoSem.ClaimMapViews
import Derived.JoinedTies
import Derived.KernelRfl
namespace Go.Proofs.Ytnohlcffmikecaa
/- THE CELL 'sum', in the pinned program and in every row, IS THE sha256 OF THE DUMP (.gsa) THAT YtnohlcffmikecaaProg.lean LOADS. Nothing in Lean hashes anything: it is a label: what it is worth is what the hold of that sum in a sandbox is worth. -/
noncomputable def Try.pinned : Pinned := { name := "ytnohlcffmikecaa", sum := "bd9ce2a9d241577aa37ea685ef60e27bce4f1b8ee7f5a75d38989f6a9e526a9d", checked := Try.checked }
namespace Rows
def none {H : Type} : Left H := { results := [], args := [] }

/-- 'laws.FnDiffNone': WHATEVER THE INPUT: true; the input reads as it did. -/
def fnDiffNoneSpec : ChangeSpec := { name := "fnDiffNone", fn := fun _ => fun
  | [d] => { results := [.lit (.bool true)], args := [d] }
  | _ => none }
def fnDiffNoneRow : OpenClaim := { program := "ytnohlcffmikecaa", sum := "bd9ce2a9d241577aa37ea685ef60e27bce4f1b8ee7f5a75d38989f6a9e526a9d", func := "loop.example/exopager/laws.FnDiffNone", spec := "fnDiffNone", unfollowed := true, recurses := true, apart := false }
def FnDiffNoneSaid : Prop := fnDiffNoneRow.holds Try.pinned (OpenSpec.ofChange fnDiffNoneSpec)

/-- ITS FALSE NEIGHBOUR: 'it returns false'. Refute it at one input. -/
def fnDiffNoneWrong : ChangeSpec := { name := "fnDiffNone", fn := fun _ => fun
  | [d] => { results := [.lit (.bool false)], args := [d] }
  | _ => none }
def FnDiffNoneWrongFalsely : Prop := fnDiffNoneRow.holds Try.pinned (OpenSpec.ofChange fnDiffNoneWrong)

/-- 'laws.FnExactPageApply': WHATEVER THE INPUT: true; the input reads as it did. -/
def fnExactPageApplySpec : ChangeSpec := { name := "fnExactPageApply", fn := fun _ => fun
  | [d1, d2] => { results := [.lit (.bool true)], args := [d1, d2] }
  | _ => none }
def fnExactPageApplyRow : OpenClaim := { program := "ytnohlcffmikecaa", sum := "bd9ce2a9d241577aa37ea685ef60e27bce4f1b8ee7f5a75d38989f6a9e526a9d", func := "loop.example/exopager/laws.FnExactPageApply", spec := "fnExactPageApply", unfollowed := true, recurses := true, apart := false }
def FnExactPageApplySaid : Prop := fnExactPageApplyRow.holds Try.pinned (OpenSpec.ofChange fnExactPageApplySpec)

/-- ITS FALSE NEIGHBOUR: 'it returns false'. Refute it at one input. -/
def fnExactPageApplyWrong : ChangeSpec := { name := "fnExactPageApply", fn := fun _ => fun
  | [d1, d2] => { results := [.lit (.bool false)], args := [d1, d2] }
  | _ => none }
def FnExactPageApplyWrongFalsely : Prop := fnExactPageApplyRow.holds Try.pinned (OpenSpec.ofChange fnExactPageApplyWrong)

/-- 'laws.FnPack': WHATEVER THE INPUT: true; the input reads as it did. -/
def fnPackSpec : ChangeSpec := { name := "fnPack", fn := fun _ => fun
  | [d] => { results := [.lit (.bool true)], args := [d] }
  | _ => none }
def fnPackRow : OpenClaim := { program := "ytnohlcffmikecaa", sum := "bd9ce2a9d241577aa37ea685ef60e27bce4f1b8ee7f5a75d38989f6a9e526a9d", func := "loop.example/exopager/laws.FnPack", spec := "fnPack", unfollowed := true, recurses := true, apart := false }
def FnPackSaid : Prop := fnPackRow.holds Try.pinned (OpenSpec.ofChange fnPackSpec)

/-- ITS FALSE NEIGHBOUR: 'it returns false'. Refute it at one input. -/
def fnPackWrong : ChangeSpec := { name := "fnPack", fn := fun _ => fun
  | [d] => { results := [.lit (.bool false)], args := [d] }
  | _ => none }
def FnPackWrongFalsely : Prop := fnPackRow.holds Try.pinned (OpenSpec.ofChange fnPackWrong)

/-- 'laws.FnExactPageUnpack': WHATEVER THE INPUT: true; the input reads as it did. -/
def fnExactPageUnpackSpec : ChangeSpec := { name := "fnExactPageUnpack", fn := fun _ => fun
  | [d] => { results := [.lit (.bool true)], args := [d] }
  | _ => none }
def fnExactPageUnpackRow : OpenClaim := { program := "ytnohlcffmikecaa", sum := "bd9ce2a9d241577aa37ea685ef60e27bce4f1b8ee7f5a75d38989f6a9e526a9d", func := "loop.example/exopager/laws.FnExactPageUnpack", spec := "fnExactPageUnpack", unfollowed := true, recurses := true, apart := false }
def FnExactPageUnpackSaid : Prop := fnExactPageUnpackRow.holds Try.pinned (OpenSpec.ofChange fnExactPageUnpackSpec)

/-- ITS FALSE NEIGHBOUR: 'it returns false'. Refute it at one input. -/
def fnExactPageUnpackWrong : ChangeSpec := { name := "fnExactPageUnpack", fn := fun _ => fun
  | [d] => { results := [.lit (.bool false)], args := [d] }
  | _ => none }
def FnExactPageUnpackWrongFalsely : Prop := fnExactPageUnpackRow.holds Try.pinned (OpenSpec.ofChange fnExactPageUnpackWrong)

/-- 'laws.FnDiff': WHATEVER THE INPUT: true; the input reads as it did. -/
def fnDiffSpec : ChangeSpec := { name := "fnDiff", fn := fun _ => fun
  | [d] => { results := [.lit (.bool true)], args := [d] }
  | _ => none }
def fnDiffRow : OpenClaim := { program := "ytnohlcffmikecaa", sum := "bd9ce2a9d241577aa37ea685ef60e27bce4f1b8ee7f5a75d38989f6a9e526a9d", func := "loop.example/exopager/laws.FnDiff", spec := "fnDiff", unfollowed := true, recurses := true, apart := false }
def FnDiffSaid : Prop := fnDiffRow.holds Try.pinned (OpenSpec.ofChange fnDiffSpec)

/-- ITS FALSE NEIGHBOUR: 'it returns false'. Refute it at one input. -/
def fnDiffWrong : ChangeSpec := { name := "fnDiff", fn := fun _ => fun
  | [d] => { results := [.lit (.bool false)], args := [d] }
  | _ => none }
def FnDiffWrongFalsely : Prop := fnDiffRow.holds Try.pinned (OpenSpec.ofChange fnDiffWrong)

/-- 'laws.FnApply': WHATEVER THE INPUT: true; the input reads as it did. -/
def fnApplySpec : ChangeSpec := { name := "fnApply", fn := fun _ => fun
  | [d] => { results := [.lit (.bool true)], args := [d] }
  | _ => none }
def fnApplyRow : OpenClaim := { program := "ytnohlcffmikecaa", sum := "bd9ce2a9d241577aa37ea685ef60e27bce4f1b8ee7f5a75d38989f6a9e526a9d", func := "loop.example/exopager/laws.FnApply", spec := "fnApply", unfollowed := true, recurses := true, apart := false }
def FnApplySaid : Prop := fnApplyRow.holds Try.pinned (OpenSpec.ofChange fnApplySpec)

/-- ITS FALSE NEIGHBOUR: 'it returns false'. Refute it at one input. -/
def fnApplyWrong : ChangeSpec := { name := "fnApply", fn := fun _ => fun
  | [d] => { results := [.lit (.bool false)], args := [d] }
  | _ => none }
def FnApplyWrongFalsely : Prop := fnApplyRow.holds Try.pinned (OpenSpec.ofChange fnApplyWrong)

/- THE SECOND FORM. 'bulk': how many values and letters a reading holds, each counted each time it is reached (what is shared counts as often as it is met; a slice's spare places count too). A statement '..UptoSaid' is the law's where the arguments, and the package variables that the reading takes, are together of bulk at most 1048576: NARROWER than '..Said'. Prove '..Said' where nothing that the law and all that it calls make is longer than what came in: it says more and counts as full. Else prove '..UptoSaid'. A law counts once. -/
mutual
def uptoBulk {H : Type} : DataW H → Nat
  | .lit (.string bytes) => bytes.length + 1
  | .lit _ => 1
  | .nil => 1
  | .ptr d => uptoBulk d + 1
  | .slice elems spare => uptoBulkAll elems + uptoBulkAll spare + 1
  | .agg parts => uptoBulkAll parts + 1
  | .iface _ d => uptoBulk d + 1
  | .map entries => uptoBulkEntries entries + 1
  | .held _ => 1
def uptoBulkAll {H : Type} : List (DataW H) → Nat
  | [] => 0
  | d :: r => uptoBulk d + uptoBulkAll r
def uptoBulkEntries {H : Type} : List (Lit × DataW H) → Nat
  | [] => 0
  | x :: r => uptoBulkEntry x + uptoBulkEntries r
def uptoBulkEntry {H : Type} : Lit × DataW H → Nat
  | (.string bytes, d) => bytes.length + uptoBulk d + 1
  | (_, d) => uptoBulk d + 1
 end
def uptoSmall : (H : Type) → List (DataW H) → Bool := fun _ ds => decide (uptoBulkAll ds ≤ 1048576)
def OpenSpec.upto (s : _root_.Go.ChangeSpec) : _root_.Go.OpenSpec := { _root_.Go.OpenSpec.ofChange s with cond := some uptoSmall }

/-- 'laws.FnDiffNone', WHERE WHAT IT READS IS OF BULK AT MOST 1048576: true; the input reads as it did. -/
def fnDiffNoneUptoRow : OpenClaim := { program := "ytnohlcffmikecaa", sum := "bd9ce2a9d241577aa37ea685ef60e27bce4f1b8ee7f5a75d38989f6a9e526a9d", func := "loop.example/exopager/laws.FnDiffNone", spec := "fnDiffNone", unfollowed := true, recurses := true, apart := false, narrowed := true }
def FnDiffNoneUptoSaid : Prop := fnDiffNoneUptoRow.holds Try.pinned (OpenSpec.upto fnDiffNoneSpec)

/-- 'laws.FnExactPageApply', WHERE WHAT IT READS IS OF BULK AT MOST 1048576: true; the input reads as it did. -/
def fnExactPageApplyUptoRow : OpenClaim := { program := "ytnohlcffmikecaa", sum := "bd9ce2a9d241577aa37ea685ef60e27bce4f1b8ee7f5a75d38989f6a9e526a9d", func := "loop.example/exopager/laws.FnExactPageApply", spec := "fnExactPageApply", unfollowed := true, recurses := true, apart := false, narrowed := true }
def FnExactPageApplyUptoSaid : Prop := fnExactPageApplyUptoRow.holds Try.pinned (OpenSpec.upto fnExactPageApplySpec)

/-- 'laws.FnPack', WHERE WHAT IT READS IS OF BULK AT MOST 1048576: true; the input reads as it did. -/
def fnPackUptoRow : OpenClaim := { program := "ytnohlcffmikecaa", sum := "bd9ce2a9d241577aa37ea685ef60e27bce4f1b8ee7f5a75d38989f6a9e526a9d", func := "loop.example/exopager/laws.FnPack", spec := "fnPack", unfollowed := true, recurses := true, apart := false, narrowed := true }
def FnPackUptoSaid : Prop := fnPackUptoRow.holds Try.pinned (OpenSpec.upto fnPackSpec)

/-- 'laws.FnExactPageUnpack', WHERE WHAT IT READS IS OF BULK AT MOST 1048576: true; the input reads as it did. -/
def fnExactPageUnpackUptoRow : OpenClaim := { program := "ytnohlcffmikecaa", sum := "bd9ce2a9d241577aa37ea685ef60e27bce4f1b8ee7f5a75d38989f6a9e526a9d", func := "loop.example/exopager/laws.FnExactPageUnpack", spec := "fnExactPageUnpack", unfollowed := true, recurses := true, apart := false, narrowed := true }
def FnExactPageUnpackUptoSaid : Prop := fnExactPageUnpackUptoRow.holds Try.pinned (OpenSpec.upto fnExactPageUnpackSpec)

/-- 'laws.FnDiff', WHERE WHAT IT READS IS OF BULK AT MOST 1048576: true; the input reads as it did. -/
def fnDiffUptoRow : OpenClaim := { program := "ytnohlcffmikecaa", sum := "bd9ce2a9d241577aa37ea685ef60e27bce4f1b8ee7f5a75d38989f6a9e526a9d", func := "loop.example/exopager/laws.FnDiff", spec := "fnDiff", unfollowed := true, recurses := true, apart := false, narrowed := true }
def FnDiffUptoSaid : Prop := fnDiffUptoRow.holds Try.pinned (OpenSpec.upto fnDiffSpec)

/-- 'laws.FnApply', WHERE WHAT IT READS IS OF BULK AT MOST 1048576: true; the input reads as it did. -/
def fnApplyUptoRow : OpenClaim := { program := "ytnohlcffmikecaa", sum := "bd9ce2a9d241577aa37ea685ef60e27bce4f1b8ee7f5a75d38989f6a9e526a9d", func := "loop.example/exopager/laws.FnApply", spec := "fnApply", unfollowed := true, recurses := true, apart := false, narrowed := true }
def FnApplyUptoSaid : Prop := fnApplyUptoRow.holds Try.pinned (OpenSpec.upto fnApplySpec)

end Rows
end Go.Proofs.Ytnohlcffmikecaa
