/-
  No cell of these rows narrows 'for every input' (looked for: loops, veiled, ifaces, maps, wideKeys, modest, calm, conditions, laid).
  DERIVED. THE GIVEN ROWS OF THIS SEAT. 6 by the template 'for every input the law returns true; each argument reads behind the call as it read before'; 0 by the template 'total and deterministic' (their statements: YtagemgimccocdaaTotals.lean).
  GIVEN WITH THE SEED: the statements are not yours to turn. If you find one false, say at which input.
  Laid BY PROGRAM, IN A SANDBOX (cutbox-rows.mjs): the forced cells as the released guide's own fill.sh prints them over the translation c218771c75ad7b5f… (all of the seat's roots in one cut). By AI agents, Wed Nov 11 2026. No macro, syntax, notation, axiom, sorry.
-/
import Derived.Test.YtagemgimccocdaaChecked
import GoSem.Claim
import GoSem.ClaimJoined
import GoSem.ClaimMapViews
import Derived.JoinedTies
import Derived.KernelRfl
namespace Go.Proofs.Ytagemgimccocdaa
/- THE CELL 'sum', in the pinned program and in every row, IS THE sha256 OF THE DUMP (.gsa) THAT YtagemgimccocdaaProg.lean LOADS. Nothing in Lean hashes anything: it is a label: what it is worth is what the hold of that sum in a sandbox is worth. -/
noncomputable def Try.pinned : Pinned := { name := "ytagemgimccocdaa", sum := "c218771c75ad7b5fe462e3d077beb4296aeba92e54bd6edec47f557fa8085f54", checked := Try.checked }
namespace Rows
def none {H : Type} : Left H := { results := [], args := [] }

/-- 'laws.FnTracePart': WHATEVER THE INPUT: true; the input reads as it did. -/
def fnTracePartSpec : ChangeSpec := { name := "fnTracePart", fn := fun _ => fun
  | [d1, d2] => { results := [.lit (.bool true)], args := [d1, d2] }
  | _ => none }
def fnTracePartRow : OpenClaim := { program := "ytagemgimccocdaa", sum := "c218771c75ad7b5fe462e3d077beb4296aeba92e54bd6edec47f557fa8085f54", func := "loop.example/exopager/laws.FnTracePart", spec := "fnTracePart", unfollowed := true, recurses := true, apart := false }
def FnTracePartSaid : Prop := fnTracePartRow.holds Try.pinned (OpenSpec.ofChange fnTracePartSpec)

/-- ITS FALSE NEIGHBOUR: 'it returns false'. Refute it at one input. -/
def fnTracePartWrong : ChangeSpec := { name := "fnTracePart", fn := fun _ => fun
  | [d1, d2] => { results := [.lit (.bool false)], args := [d1, d2] }
  | _ => none }
def FnTracePartWrongFalsely : Prop := fnTracePartRow.holds Try.pinned (OpenSpec.ofChange fnTracePartWrong)

/-- 'laws.FnExactTraceSpans': WHATEVER THE INPUT: true; the input reads as it did. -/
def fnExactTraceSpansSpec : ChangeSpec := { name := "fnExactTraceSpans", fn := fun _ => fun
  | [d] => { results := [.lit (.bool true)], args := [d] }
  | _ => none }
def fnExactTraceSpansRow : OpenClaim := { program := "ytagemgimccocdaa", sum := "c218771c75ad7b5fe462e3d077beb4296aeba92e54bd6edec47f557fa8085f54", func := "loop.example/exopager/laws.FnExactTraceSpans", spec := "fnExactTraceSpans", unfollowed := true, recurses := true, apart := false }
def FnExactTraceSpansSaid : Prop := fnExactTraceSpansRow.holds Try.pinned (OpenSpec.ofChange fnExactTraceSpansSpec)

/-- ITS FALSE NEIGHBOUR: 'it returns false'. Refute it at one input. -/
def fnExactTraceSpansWrong : ChangeSpec := { name := "fnExactTraceSpans", fn := fun _ => fun
  | [d] => { results := [.lit (.bool false)], args := [d] }
  | _ => none }
def FnExactTraceSpansWrongFalsely : Prop := fnExactTraceSpansRow.holds Try.pinned (OpenSpec.ofChange fnExactTraceSpansWrong)

/-- 'laws.FnExactFaultsFirst': WHATEVER THE INPUT: true; the input reads as it did. -/
def fnExactFaultsFirstSpec : ChangeSpec := { name := "fnExactFaultsFirst", fn := fun _ => fun
  | [d1, d2] => { results := [.lit (.bool true)], args := [d1, d2] }
  | _ => none }
def fnExactFaultsFirstRow : OpenClaim := { program := "ytagemgimccocdaa", sum := "c218771c75ad7b5fe462e3d077beb4296aeba92e54bd6edec47f557fa8085f54", func := "loop.example/exopager/laws.FnExactFaultsFirst", spec := "fnExactFaultsFirst", unfollowed := true, recurses := true, apart := false }
def FnExactFaultsFirstSaid : Prop := fnExactFaultsFirstRow.holds Try.pinned (OpenSpec.ofChange fnExactFaultsFirstSpec)

/-- ITS FALSE NEIGHBOUR: 'it returns false'. Refute it at one input. -/
def fnExactFaultsFirstWrong : ChangeSpec := { name := "fnExactFaultsFirst", fn := fun _ => fun
  | [d1, d2] => { results := [.lit (.bool false)], args := [d1, d2] }
  | _ => none }
def FnExactFaultsFirstWrongFalsely : Prop := fnExactFaultsFirstRow.holds Try.pinned (OpenSpec.ofChange fnExactFaultsFirstWrong)

/-- 'laws.FnExactFaultsLast': WHATEVER THE INPUT: true; the input reads as it did. -/
def fnExactFaultsLastSpec : ChangeSpec := { name := "fnExactFaultsLast", fn := fun _ => fun
  | [d1, d2] => { results := [.lit (.bool true)], args := [d1, d2] }
  | _ => none }
def fnExactFaultsLastRow : OpenClaim := { program := "ytagemgimccocdaa", sum := "c218771c75ad7b5fe462e3d077beb4296aeba92e54bd6edec47f557fa8085f54", func := "loop.example/exopager/laws.FnExactFaultsLast", spec := "fnExactFaultsLast", unfollowed := true, recurses := true, apart := false }
def FnExactFaultsLastSaid : Prop := fnExactFaultsLastRow.holds Try.pinned (OpenSpec.ofChange fnExactFaultsLastSpec)

/-- ITS FALSE NEIGHBOUR: 'it returns false'. Refute it at one input. -/
def fnExactFaultsLastWrong : ChangeSpec := { name := "fnExactFaultsLast", fn := fun _ => fun
  | [d1, d2] => { results := [.lit (.bool false)], args := [d1, d2] }
  | _ => none }
def FnExactFaultsLastWrongFalsely : Prop := fnExactFaultsLastRow.holds Try.pinned (OpenSpec.ofChange fnExactFaultsLastWrong)

/-- 'laws.FnSpans': WHATEVER THE INPUT: true; the input reads as it did. -/
def fnSpansSpec : ChangeSpec := { name := "fnSpans", fn := fun _ => fun
  | [d] => { results := [.lit (.bool true)], args := [d] }
  | _ => none }
def fnSpansRow : OpenClaim := { program := "ytagemgimccocdaa", sum := "c218771c75ad7b5fe462e3d077beb4296aeba92e54bd6edec47f557fa8085f54", func := "loop.example/exopager/laws.FnSpans", spec := "fnSpans", unfollowed := true, recurses := true, apart := false }
def FnSpansSaid : Prop := fnSpansRow.holds Try.pinned (OpenSpec.ofChange fnSpansSpec)

/-- ITS FALSE NEIGHBOUR: 'it returns false'. Refute it at one input. -/
def fnSpansWrong : ChangeSpec := { name := "fnSpans", fn := fun _ => fun
  | [d] => { results := [.lit (.bool false)], args := [d] }
  | _ => none }
def FnSpansWrongFalsely : Prop := fnSpansRow.holds Try.pinned (OpenSpec.ofChange fnSpansWrong)

/-- 'laws.FnExactFaultsBest': WHATEVER THE INPUT: true; the input reads as it did. -/
def fnExactFaultsBestSpec : ChangeSpec := { name := "fnExactFaultsBest", fn := fun _ => fun
  | [d1, d2] => { results := [.lit (.bool true)], args := [d1, d2] }
  | _ => none }
def fnExactFaultsBestRow : OpenClaim := { program := "ytagemgimccocdaa", sum := "c218771c75ad7b5fe462e3d077beb4296aeba92e54bd6edec47f557fa8085f54", func := "loop.example/exopager/laws.FnExactFaultsBest", spec := "fnExactFaultsBest", unfollowed := true, recurses := true, apart := false }
def FnExactFaultsBestSaid : Prop := fnExactFaultsBestRow.holds Try.pinned (OpenSpec.ofChange fnExactFaultsBestSpec)

/-- ITS FALSE NEIGHBOUR: 'it returns false'. Refute it at one input. -/
def fnExactFaultsBestWrong : ChangeSpec := { name := "fnExactFaultsBest", fn := fun _ => fun
  | [d1, d2] => { results := [.lit (.bool false)], args := [d1, d2] }
  | _ => none }
def FnExactFaultsBestWrongFalsely : Prop := fnExactFaultsBestRow.holds Try.pinned (OpenSpec.ofChange fnExactFaultsBestWrong)

/- THE SECOND FORM. 'bulk': how many values and letters a reading holds, each counted each time it is reached (what is shared counts as often as it is met; a slice's spare places count too). A statement '..UptoSaid' is the law's where the arguments, and the package variables that the reading takes, are together of bulk at most 1048576: NARROWER than '..Said'. Prove '..Said' where nothing that the law and all that it calls make is longer than what came in: it says more and counts as full. Else prove '..UptoSaid'. A law counts once. -/
mutual
def uptoBulk {H : Type} : DataW H → Nat
  | .lit (.string bytes) => bytes.length + 1
  | .lit _ => 1
  | .nil => 1
  | .ptr d => uptoBulk d + 1
  | .slice elems spare => uptoBulkAll elems + uptoBulkAll spare + 1
  | .agg parts => uptoBulkAll parts + 1
  | .iface _ d => uptoBulk d + 1
  | .map entries => uptoBulkEntries entries + 1
  | .held _ => 1
def uptoBulkAll {H : Type} : List (DataW H) → Nat
  | [] => 0
  | d :: r => uptoBulk d + uptoBulkAll r
def uptoBulkEntries {H : Type} : List (Lit × DataW H) → Nat
  | [] => 0
  | x :: r => uptoBulkEntry x + uptoBulkEntries r
def uptoBulkEntry {H : Type} : Lit × DataW H → Nat
  | (.string bytes, d) => bytes.length + uptoBulk d + 1
  | (_, d) => uptoBulk d + 1
 end
def uptoSmall : (H : Type) → List (DataW H) → Bool := fun _ ds => decide (uptoBulkAll ds ≤ 1048576)
def OpenSpec.upto (s : _root_.Go.ChangeSpec) : _root_.Go.OpenSpec := { _root_.Go.OpenSpec.ofChange s with cond := some uptoSmall }

/-- 'laws.FnTracePart', WHERE WHAT IT READS IS OF BULK AT MOST 1048576: true; the input reads as it did. -/
def fnTracePartUptoRow : OpenClaim := { program := "ytagemgimccocdaa", sum := "c218771c75ad7b5fe462e3d077beb4296aeba92e54bd6edec47f557fa8085f54", func := "loop.example/exopager/laws.FnTracePart", spec := "fnTracePart", unfollowed := true, recurses := true, apart := false, narrowed := true }
def FnTracePartUptoSaid : Prop := fnTracePartUptoRow.holds Try.pinned (OpenSpec.upto fnTracePartSpec)

/-- 'laws.FnExactTraceSpans', WHERE WHAT IT READS IS OF BULK AT MOST 1048576: true; the input reads as it did. -/
def fnExactTraceSpansUptoRow : OpenClaim := { program := "ytagemgimccocdaa", sum := "c218771c75ad7b5fe462e3d077beb4296aeba92e54bd6edec47f557fa8085f54", func := "loop.example/exopager/laws.FnExactTraceSpans", spec := "fnExactTraceSpans", unfollowed := true, recurses := true, apart := false, narrowed := true }
def FnExactTraceSpansUptoSaid : Prop := fnExactTraceSpansUptoRow.holds Try.pinned (OpenSpec.upto fnExactTraceSpansSpec)

/-- 'laws.FnExactFaultsFirst', WHERE WHAT IT READS IS OF BULK AT MOST 1048576: true; the input reads as it did. -/
def fnExactFaultsFirstUptoRow : OpenClaim := { program := "ytagemgimccocdaa", sum := "c218771c75ad7b5fe462e3d077beb4296aeba92e54bd6edec47f557fa8085f54", func := "loop.example/exopager/laws.FnExactFaultsFirst", spec := "fnExactFaultsFirst", unfollowed := true, recurses := true, apart := false, narrowed := true }
def FnExactFaultsFirstUptoSaid : Prop := fnExactFaultsFirstUptoRow.holds Try.pinned (OpenSpec.upto fnExactFaultsFirstSpec)

/-- 'laws.FnExactFaultsLast', WHERE WHAT IT READS IS OF BULK AT MOST 1048576: true; the input reads as it did. -/
def fnExactFaultsLastUptoRow : OpenClaim := { program := "ytagemgimccocdaa", sum := "c218771c75ad7b5fe462e3d077beb4296aeba92e54bd6edec47f557fa8085f54", func := "loop.example/exopager/laws.FnExactFaultsLast", spec := "fnExactFaultsLast", unfollowed := true, recurses := true, apart := false, narrowed := true }
def FnExactFaultsLastUptoSaid : Prop := fnExactFaultsLastUptoRow.holds Try.pinned (OpenSpec.upto fnExactFaultsLastSpec)

/-- 'laws.FnSpans', WHERE WHAT IT READS IS OF BULK AT MOST 1048576: true; the input reads as it did. -/
def fnSpansUptoRow : OpenClaim := { program := "ytagemgimccocdaa", sum := "c218771c75ad7b5fe462e3d077beb4296aeba92e54bd6edec47f557fa8085f54", func := "loop.example/exopager/laws.FnSpans", spec := "fnSpans", unfollowed := true, recurses := true, apart := false, narrowed := true }
def FnSpansUptoSaid : Prop := fnSpansUptoRow.holds Try.pinned (OpenSpec.upto fnSpansSpec)

/-- 'laws.FnExactFaultsBest', WHERE WHAT IT READS IS OF BULK AT MOST 1048576: true; the input reads as it did. -/
def fnExactFaultsBestUptoRow : OpenClaim := { program := "ytagemgimccocdaa", sum := "c218771c75ad7b5fe462e3d077beb4296aeba92e54bd6edec47f557fa8085f54", func := "loop.example/exopager/laws.FnExactFaultsBest", spec := "fnExactFaultsBest", unfollowed := true, recurses := true, apart := false, narrowed := true }
def FnExactFaultsBestUptoSaid : Prop := fnExactFaultsBestUptoRow.holds Try.pinned (OpenSpec.upto fnExactFaultsBestSpec)

end Rows
end Go.Proofs.Ytagemgimccocdaa
