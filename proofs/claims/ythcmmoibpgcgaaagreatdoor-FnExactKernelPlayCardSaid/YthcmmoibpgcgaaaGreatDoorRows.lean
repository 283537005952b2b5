/-
  NARROWER THAN 'FOR EVERY INPUT', by the rows' own cells (each row's printed sentence says how): FnPagerLimit: laid · FnPagerSees: laid · FnPagerWord: laid · FnKernelPlay: laid · FnKernelPlaySplit: laid · FnExactKernelCall: laid · FnExactKernelPlay: laid.
  DERIVED. THE GIVEN ROWS OF THIS SEAT. 7 by the template 'for every input the law returns true; each argument reads behind the call as it read before'; 0 by the template 'total and deterministic' (their statements: YthcmmoibpgcgaaaGreatDoorTotals.lean).
  GIVEN WITH THE SEED: the statements are not yours to turn. If you find one false, say at which input.
  Laid BY PROGRAM, IN A SANDBOX (cutbox-rows.mjs): the forced cells as the released guide's own fill.sh prints them over the translation 144d2dfd95341ba1… (all of the seat's roots in one cut). By AI agents, Wed Nov 11 2026. No macro, syntax, notation, axiom, sorry.
-/
import Derived.Test.YthcmmoibpgcgaaaGreatDoorChecked
import GoSem.PinnedTables
import GoSem.Claim
import GoSem.ClaimJoined
import GoSem.ClaimMapViews
import Derived.JoinedTies
import Derived.KernelRfl
namespace Go.Proofs.YthcmmoibpgcgaaaGreatDoor
/- THE CELL 'sum', in the pinned program and in every row, IS THE sha256 OF THE DUMP (.gsa) THAT YthcmmoibpgcgaaaGreatDoorProg.lean LOADS. Nothing in Lean hashes anything: it is a label: what it is worth is what the hold of that sum in a sandbox is worth. -/
noncomputable def Tryz.pinned : Pinned := { name := "ythcmmoibpgcgaaagreatdoor", sum := "144d2dfd95341ba1baa0e2ec730b9a3501ca4d53d6ac26601baf454e7ef0027f", checked := Tryz.checked }
namespace Rows
def none {H : Type} : Left H := { results := [], args := [] }

/- WHAT THE LISTED PACKAGE-LEVEL VARIABLES READ AS WHEN THE CALL BEGINS. Each datum BY PROGRAM (the guide's laid-datum.mjs) off the statement by which the dump's own 'gosem.cut.vars' lays the variable. In a bare row this is a premise. The card (YthcmmoibpgcgaaaGreatDoorCards.lean) ties it to the program's text. -/
def laid_unicode_utf8_acceptRanges {H : Type} : DataW H := .agg [.agg [.lit (.int .u8 128), .lit (.int .u8 191)], .agg [.lit (.int .u8 160), .lit (.int .u8 191)], .agg [.lit (.int .u8 128), .lit (.int .u8 159)], .agg [.lit (.int .u8 144), .lit (.int .u8 191)], .agg [.lit (.int .u8 128), .lit (.int .u8 143)], .agg [.lit (.int .u8 0), .lit (.int .u8 0)], .agg [.lit (.int .u8 0), .lit (.int .u8 0)], .agg [.lit (.int .u8 0), .lit (.int .u8 0)], .agg [.lit (.int .u8 0), .lit (.int .u8 0)], .agg [.lit (.int .u8 0), .lit (.int .u8 0)], .agg [.lit (.int .u8 0), .lit (.int .u8 0)], .agg [.lit (.int .u8 0), .lit (.int .u8 0)], .agg [.lit (.int .u8 0), .lit (.int .u8 0)], .agg [.lit (.int .u8 0), .lit (.int .u8 0)], .agg [.lit (.int .u8 0), .lit (.int .u8 0)], .agg [.lit (.int .u8 0), .lit (.int .u8 0)]]
/-- One of Go's own tables, pinned by name: the form's constant. -/
def laid_unicode_utf8_first : DataW Unit := Go.Pinned.utf8First

/-- 'laws.FnPagerLimit': WHATEVER THE INPUT: true; the input reads as it did. -/
def fnPagerLimitSpec : ChangeSpec := { name := "fnPagerLimit", fn := fun _ => fun
  | [d] => { results := [.lit (.bool true)], args := [d] }
  | _ => none }
def fnPagerLimitRow : OpenClaim := { program := "ythcmmoibpgcgaaagreatdoor", sum := "144d2dfd95341ba1baa0e2ec730b9a3501ca4d53d6ac26601baf454e7ef0027f", func := "loop.example/exopager/laws.FnPagerLimit", spec := "fnPagerLimit", inPlace := ["internal/bytealg.IndexByteString", "internal/bytealg.IndexString"], unfollowed := true, recurses := true, named := ["unicode/utf8.first", "unicode/utf8.acceptRanges", "internal/bytealg.MaxLen"], apart := false, laid := [("unicode/utf8.acceptRanges", laid_unicode_utf8_acceptRanges), ("unicode/utf8.first", laid_unicode_utf8_first)] }
def FnPagerLimitSaid : Prop := fnPagerLimitRow.holds Tryz.pinned (OpenSpec.ofChange fnPagerLimitSpec)

/-- ITS FALSE NEIGHBOUR: 'it returns false'. Refute it at one input. -/
def fnPagerLimitWrong : ChangeSpec := { name := "fnPagerLimit", fn := fun _ => fun
  | [d] => { results := [.lit (.bool false)], args := [d] }
  | _ => none }
def FnPagerLimitWrongFalsely : Prop := fnPagerLimitRow.holds Tryz.pinned (OpenSpec.ofChange fnPagerLimitWrong)

/-- 'laws.FnPagerSees': WHATEVER THE INPUT: true; the input reads as it did. -/
def fnPagerSeesSpec : ChangeSpec := { name := "fnPagerSees", fn := fun _ => fun
  | [d] => { results := [.lit (.bool true)], args := [d] }
  | _ => none }
def fnPagerSeesRow : OpenClaim := { program := "ythcmmoibpgcgaaagreatdoor", sum := "144d2dfd95341ba1baa0e2ec730b9a3501ca4d53d6ac26601baf454e7ef0027f", func := "loop.example/exopager/laws.FnPagerSees", spec := "fnPagerSees", inPlace := ["internal/bytealg.IndexByteString", "internal/bytealg.IndexString"], unfollowed := true, recurses := true, named := ["unicode/utf8.first", "unicode/utf8.acceptRanges", "internal/bytealg.MaxLen"], apart := false, laid := [("unicode/utf8.acceptRanges", laid_unicode_utf8_acceptRanges), ("unicode/utf8.first", laid_unicode_utf8_first)] }
def FnPagerSeesSaid : Prop := fnPagerSeesRow.holds Tryz.pinned (OpenSpec.ofChange fnPagerSeesSpec)

/-- ITS FALSE NEIGHBOUR: 'it returns false'. Refute it at one input. -/
def fnPagerSeesWrong : ChangeSpec := { name := "fnPagerSees", fn := fun _ => fun
  | [d] => { results := [.lit (.bool false)], args := [d] }
  | _ => none }
def FnPagerSeesWrongFalsely : Prop := fnPagerSeesRow.holds Tryz.pinned (OpenSpec.ofChange fnPagerSeesWrong)

/-- 'laws.FnPagerWord': WHATEVER THE INPUT: true; the input reads as it did. -/
def fnPagerWordSpec : ChangeSpec := { name := "fnPagerWord", fn := fun _ => fun
  | [d] => { results := [.lit (.bool true)], args := [d] }
  | _ => none }
def fnPagerWordRow : OpenClaim := { program := "ythcmmoibpgcgaaagreatdoor", sum := "144d2dfd95341ba1baa0e2ec730b9a3501ca4d53d6ac26601baf454e7ef0027f", func := "loop.example/exopager/laws.FnPagerWord", spec := "fnPagerWord", inPlace := ["internal/bytealg.IndexByteString", "internal/bytealg.IndexString"], unfollowed := true, recurses := true, named := ["unicode/utf8.first", "unicode/utf8.acceptRanges", "internal/bytealg.MaxLen"], apart := false, laid := [("unicode/utf8.acceptRanges", laid_unicode_utf8_acceptRanges), ("unicode/utf8.first", laid_unicode_utf8_first)] }
def FnPagerWordSaid : Prop := fnPagerWordRow.holds Tryz.pinned (OpenSpec.ofChange fnPagerWordSpec)

/-- ITS FALSE NEIGHBOUR: 'it returns false'. Refute it at one input. -/
def fnPagerWordWrong : ChangeSpec := { name := "fnPagerWord", fn := fun _ => fun
  | [d] => { results := [.lit (.bool false)], args := [d] }
  | _ => none }
def FnPagerWordWrongFalsely : Prop := fnPagerWordRow.holds Tryz.pinned (OpenSpec.ofChange fnPagerWordWrong)

/-- 'laws.FnKernelPlay': WHATEVER THE INPUT: true; the input reads as it did. -/
def fnKernelPlaySpec : ChangeSpec := { name := "fnKernelPlay", fn := fun _ => fun
  | [d] => { results := [.lit (.bool true)], args := [d] }
  | _ => none }
def fnKernelPlayRow : OpenClaim := { program := "ythcmmoibpgcgaaagreatdoor", sum := "144d2dfd95341ba1baa0e2ec730b9a3501ca4d53d6ac26601baf454e7ef0027f", func := "loop.example/exopager/laws.FnKernelPlay", spec := "fnKernelPlay", inPlace := ["internal/bytealg.IndexByteString", "internal/bytealg.IndexString", "slices.overlaps[string]"], unfollowed := true, recurses := true, named := ["unicode/utf8.first", "unicode/utf8.acceptRanges", "internal/bytealg.MaxLen"], apart := false, laid := [("unicode/utf8.acceptRanges", laid_unicode_utf8_acceptRanges), ("unicode/utf8.first", laid_unicode_utf8_first)] }
def FnKernelPlaySaid : Prop := fnKernelPlayRow.holds Tryz.pinned (OpenSpec.ofChange fnKernelPlaySpec)

/-- ITS FALSE NEIGHBOUR: 'it returns false'. Refute it at one input. -/
def fnKernelPlayWrong : ChangeSpec := { name := "fnKernelPlay", fn := fun _ => fun
  | [d] => { results := [.lit (.bool false)], args := [d] }
  | _ => none }
def FnKernelPlayWrongFalsely : Prop := fnKernelPlayRow.holds Tryz.pinned (OpenSpec.ofChange fnKernelPlayWrong)

/-- 'laws.FnKernelPlaySplit': WHATEVER THE INPUT: true; the input reads as it did. -/
def fnKernelPlaySplitSpec : ChangeSpec := { name := "fnKernelPlaySplit", fn := fun _ => fun
  | [d1, d2] => { results := [.lit (.bool true)], args := [d1, d2] }
  | _ => none }
def fnKernelPlaySplitRow : OpenClaim := { program := "ythcmmoibpgcgaaagreatdoor", sum := "144d2dfd95341ba1baa0e2ec730b9a3501ca4d53d6ac26601baf454e7ef0027f", func := "loop.example/exopager/laws.FnKernelPlaySplit", spec := "fnKernelPlaySplit", inPlace := ["internal/bytealg.IndexByteString", "internal/bytealg.IndexString", "slices.overlaps[string]"], unfollowed := true, recurses := true, named := ["unicode/utf8.first", "unicode/utf8.acceptRanges", "internal/bytealg.MaxLen"], apart := false, laid := [("unicode/utf8.acceptRanges", laid_unicode_utf8_acceptRanges), ("unicode/utf8.first", laid_unicode_utf8_first)] }
def FnKernelPlaySplitSaid : Prop := fnKernelPlaySplitRow.holds Tryz.pinned (OpenSpec.ofChange fnKernelPlaySplitSpec)

/-- ITS FALSE NEIGHBOUR: 'it returns false'. Refute it at one input. -/
def fnKernelPlaySplitWrong : ChangeSpec := { name := "fnKernelPlaySplit", fn := fun _ => fun
  | [d1, d2] => { results := [.lit (.bool false)], args := [d1, d2] }
  | _ => none }
def FnKernelPlaySplitWrongFalsely : Prop := fnKernelPlaySplitRow.holds Tryz.pinned (OpenSpec.ofChange fnKernelPlaySplitWrong)

/-- 'laws.FnExactKernelCall': WHATEVER THE INPUT: true; the input reads as it did. -/
def fnExactKernelCallSpec : ChangeSpec := { name := "fnExactKernelCall", fn := fun _ => fun
  | [d1, d2] => { results := [.lit (.bool true)], args := [d1, d2] }
  | _ => none }
def fnExactKernelCallRow : OpenClaim := { program := "ythcmmoibpgcgaaagreatdoor", sum := "144d2dfd95341ba1baa0e2ec730b9a3501ca4d53d6ac26601baf454e7ef0027f", func := "loop.example/exopager/laws.FnExactKernelCall", spec := "fnExactKernelCall", inPlace := ["internal/bytealg.IndexByteString", "internal/bytealg.IndexString", "slices.overlaps[string]"], unfollowed := true, recurses := true, named := ["unicode/utf8.first", "unicode/utf8.acceptRanges", "internal/bytealg.MaxLen"], apart := false, laid := [("unicode/utf8.acceptRanges", laid_unicode_utf8_acceptRanges), ("unicode/utf8.first", laid_unicode_utf8_first)] }
def FnExactKernelCallSaid : Prop := fnExactKernelCallRow.holds Tryz.pinned (OpenSpec.ofChange fnExactKernelCallSpec)

/-- ITS FALSE NEIGHBOUR: 'it returns false'. Refute it at one input. -/
def fnExactKernelCallWrong : ChangeSpec := { name := "fnExactKernelCall", fn := fun _ => fun
  | [d1, d2] => { results := [.lit (.bool false)], args := [d1, d2] }
  | _ => none }
def FnExactKernelCallWrongFalsely : Prop := fnExactKernelCallRow.holds Tryz.pinned (OpenSpec.ofChange fnExactKernelCallWrong)

/-- 'laws.FnExactKernelPlay': WHATEVER THE INPUT: true; the input reads as it did. -/
def fnExactKernelPlaySpec : ChangeSpec := { name := "fnExactKernelPlay", fn := fun _ => fun
  | [d1, d2] => { results := [.lit (.bool true)], args := [d1, d2] }
  | _ => none }
def fnExactKernelPlayRow : OpenClaim := { program := "ythcmmoibpgcgaaagreatdoor", sum := "144d2dfd95341ba1baa0e2ec730b9a3501ca4d53d6ac26601baf454e7ef0027f", func := "loop.example/exopager/laws.FnExactKernelPlay", spec := "fnExactKernelPlay", inPlace := ["internal/bytealg.IndexByteString", "internal/bytealg.IndexString", "slices.overlaps[string]"], unfollowed := true, recurses := true, named := ["unicode/utf8.first", "unicode/utf8.acceptRanges", "internal/bytealg.MaxLen"], apart := false, laid := [("unicode/utf8.acceptRanges", laid_unicode_utf8_acceptRanges), ("unicode/utf8.first", laid_unicode_utf8_first)] }
def FnExactKernelPlaySaid : Prop := fnExactKernelPlayRow.holds Tryz.pinned (OpenSpec.ofChange fnExactKernelPlaySpec)

/-- ITS FALSE NEIGHBOUR: 'it returns false'. Refute it at one input. -/
def fnExactKernelPlayWrong : ChangeSpec := { name := "fnExactKernelPlay", fn := fun _ => fun
  | [d1, d2] => { results := [.lit (.bool false)], args := [d1, d2] }
  | _ => none }
def FnExactKernelPlayWrongFalsely : Prop := fnExactKernelPlayRow.holds Tryz.pinned (OpenSpec.ofChange fnExactKernelPlayWrong)

/- THE SECOND FORM. 'bulk': how many values and letters a reading holds, each counted each time it is reached (what is shared counts as often as it is met; a slice's spare places count too). A statement '..UptoSaid' is the law's where the arguments, and the package variables that the reading takes, are together of bulk at most 1048576: NARROWER than '..Said'. Prove '..Said' where nothing that the law and all that it calls make is longer than what came in: it says more and counts as full. Else prove '..UptoSaid'. A law counts once. -/
mutual
def uptoBulk {H : Type} : DataW H → Nat
  | .lit (.string bytes) => bytes.length + 1
  | .lit _ => 1
  | .nil => 1
  | .ptr d => uptoBulk d + 1
  | .slice elems spare => uptoBulkAll elems + uptoBulkAll spare + 1
  | .agg parts => uptoBulkAll parts + 1
  | .iface _ d => uptoBulk d + 1
  | .map entries => uptoBulkEntries entries + 1
  | .held _ => 1
def uptoBulkAll {H : Type} : List (DataW H) → Nat
  | [] => 0
  | d :: r => uptoBulk d + uptoBulkAll r
def uptoBulkEntries {H : Type} : List (Lit × DataW H) → Nat
  | [] => 0
  | x :: r => uptoBulkEntry x + uptoBulkEntries r
def uptoBulkEntry {H : Type} : Lit × DataW H → Nat
  | (.string bytes, d) => bytes.length + uptoBulk d + 1
  | (_, d) => uptoBulk d + 1
 end
def uptoSmall : (H : Type) → List (DataW H) → Bool := fun _ ds => decide (uptoBulkAll ds ≤ 1048576)
def OpenSpec.upto (s : _root_.Go.ChangeSpec) : _root_.Go.OpenSpec := { _root_.Go.OpenSpec.ofChange s with cond := some uptoSmall }

/-- 'laws.FnPagerLimit', WHERE WHAT IT READS IS OF BULK AT MOST 1048576: true; the input reads as it did. -/
def fnPagerLimitUptoRow : OpenClaim := { program := "ythcmmoibpgcgaaagreatdoor", sum := "144d2dfd95341ba1baa0e2ec730b9a3501ca4d53d6ac26601baf454e7ef0027f", func := "loop.example/exopager/laws.FnPagerLimit", spec := "fnPagerLimit", inPlace := ["internal/bytealg.IndexByteString", "internal/bytealg.IndexString"], unfollowed := true, recurses := true, named := ["unicode/utf8.first", "unicode/utf8.acceptRanges", "internal/bytealg.MaxLen"], apart := false, laid := [("unicode/utf8.acceptRanges", laid_unicode_utf8_acceptRanges), ("unicode/utf8.first", laid_unicode_utf8_first)], narrowed := true }
def FnPagerLimitUptoSaid : Prop := fnPagerLimitUptoRow.holds Tryz.pinned (OpenSpec.upto fnPagerLimitSpec)

/-- 'laws.FnPagerSees', WHERE WHAT IT READS IS OF BULK AT MOST 1048576: true; the input reads as it did. -/
def fnPagerSeesUptoRow : OpenClaim := { program := "ythcmmoibpgcgaaagreatdoor", sum := "144d2dfd95341ba1baa0e2ec730b9a3501ca4d53d6ac26601baf454e7ef0027f", func := "loop.example/exopager/laws.FnPagerSees", spec := "fnPagerSees", inPlace := ["internal/bytealg.IndexByteString", "internal/bytealg.IndexString"], unfollowed := true, recurses := true, named := ["unicode/utf8.first", "unicode/utf8.acceptRanges", "internal/bytealg.MaxLen"], apart := false, laid := [("unicode/utf8.acceptRanges", laid_unicode_utf8_acceptRanges), ("unicode/utf8.first", laid_unicode_utf8_first)], narrowed := true }
def FnPagerSeesUptoSaid : Prop := fnPagerSeesUptoRow.holds Tryz.pinned (OpenSpec.upto fnPagerSeesSpec)

/-- 'laws.FnPagerWord', WHERE WHAT IT READS IS OF BULK AT MOST 1048576: true; the input reads as it did. -/
def fnPagerWordUptoRow : OpenClaim := { program := "ythcmmoibpgcgaaagreatdoor", sum := "144d2dfd95341ba1baa0e2ec730b9a3501ca4d53d6ac26601baf454e7ef0027f", func := "loop.example/exopager/laws.FnPagerWord", spec := "fnPagerWord", inPlace := ["internal/bytealg.IndexByteString", "internal/bytealg.IndexString"], unfollowed := true, recurses := true, named := ["unicode/utf8.first", "unicode/utf8.acceptRanges", "internal/bytealg.MaxLen"], apart := false, laid := [("unicode/utf8.acceptRanges", laid_unicode_utf8_acceptRanges), ("unicode/utf8.first", laid_unicode_utf8_first)], narrowed := true }
def FnPagerWordUptoSaid : Prop := fnPagerWordUptoRow.holds Tryz.pinned (OpenSpec.upto fnPagerWordSpec)

/-- 'laws.FnKernelPlay', WHERE WHAT IT READS IS OF BULK AT MOST 1048576: true; the input reads as it did. -/
def fnKernelPlayUptoRow : OpenClaim := { program := "ythcmmoibpgcgaaagreatdoor", sum := "144d2dfd95341ba1baa0e2ec730b9a3501ca4d53d6ac26601baf454e7ef0027f", func := "loop.example/exopager/laws.FnKernelPlay", spec := "fnKernelPlay", inPlace := ["internal/bytealg.IndexByteString", "internal/bytealg.IndexString", "slices.overlaps[string]"], unfollowed := true, recurses := true, named := ["unicode/utf8.first", "unicode/utf8.acceptRanges", "internal/bytealg.MaxLen"], apart := false, laid := [("unicode/utf8.acceptRanges", laid_unicode_utf8_acceptRanges), ("unicode/utf8.first", laid_unicode_utf8_first)], narrowed := true }
def FnKernelPlayUptoSaid : Prop := fnKernelPlayUptoRow.holds Tryz.pinned (OpenSpec.upto fnKernelPlaySpec)

/-- 'laws.FnKernelPlaySplit', WHERE WHAT IT READS IS OF BULK AT MOST 1048576: true; the input reads as it did. -/
def fnKernelPlaySplitUptoRow : OpenClaim := { program := "ythcmmoibpgcgaaagreatdoor", sum := "144d2dfd95341ba1baa0e2ec730b9a3501ca4d53d6ac26601baf454e7ef0027f", func := "loop.example/exopager/laws.FnKernelPlaySplit", spec := "fnKernelPlaySplit", inPlace := ["internal/bytealg.IndexByteString", "internal/bytealg.IndexString", "slices.overlaps[string]"], unfollowed := true, recurses := true, named := ["unicode/utf8.first", "unicode/utf8.acceptRanges", "internal/bytealg.MaxLen"], apart := false, laid := [("unicode/utf8.acceptRanges", laid_unicode_utf8_acceptRanges), ("unicode/utf8.first", laid_unicode_utf8_first)], narrowed := true }
def FnKernelPlaySplitUptoSaid : Prop := fnKernelPlaySplitUptoRow.holds Tryz.pinned (OpenSpec.upto fnKernelPlaySplitSpec)

/-- 'laws.FnExactKernelCall', WHERE WHAT IT READS IS OF BULK AT MOST 1048576: true; the input reads as it did. -/
def fnExactKernelCallUptoRow : OpenClaim := { program := "ythcmmoibpgcgaaagreatdoor", sum := "144d2dfd95341ba1baa0e2ec730b9a3501ca4d53d6ac26601baf454e7ef0027f", func := "loop.example/exopager/laws.FnExactKernelCall", spec := "fnExactKernelCall", inPlace := ["internal/bytealg.IndexByteString", "internal/bytealg.IndexString", "slices.overlaps[string]"], unfollowed := true, recurses := true, named := ["unicode/utf8.first", "unicode/utf8.acceptRanges", "internal/bytealg.MaxLen"], apart := false, laid := [("unicode/utf8.acceptRanges", laid_unicode_utf8_acceptRanges), ("unicode/utf8.first", laid_unicode_utf8_first)], narrowed := true }
def FnExactKernelCallUptoSaid : Prop := fnExactKernelCallUptoRow.holds Tryz.pinned (OpenSpec.upto fnExactKernelCallSpec)

/-- 'laws.FnExactKernelPlay', WHERE WHAT IT READS IS OF BULK AT MOST 1048576: true; the input reads as it did. -/
def fnExactKernelPlayUptoRow : OpenClaim := { program := "ythcmmoibpgcgaaagreatdoor", sum := "144d2dfd95341ba1baa0e2ec730b9a3501ca4d53d6ac26601baf454e7ef0027f", func := "loop.example/exopager/laws.FnExactKernelPlay", spec := "fnExactKernelPlay", inPlace := ["internal/bytealg.IndexByteString", "internal/bytealg.IndexString", "slices.overlaps[string]"], unfollowed := true, recurses := true, named := ["unicode/utf8.first", "unicode/utf8.acceptRanges", "internal/bytealg.MaxLen"], apart := false, laid := [("unicode/utf8.acceptRanges", laid_unicode_utf8_acceptRanges), ("unicode/utf8.first", laid_unicode_utf8_first)], narrowed := true }
def FnExactKernelPlayUptoSaid : Prop := fnExactKernelPlayUptoRow.holds Tryz.pinned (OpenSpec.upto fnExactKernelPlaySpec)

end Rows
end Go.Proofs.YthcmmoibpgcgaaaGreatDoor
