/-
  NARROWER THAN 'FOR EVERY INPUT', by the rows' own cells (each row's printed sentence says how): FnExactKernelCall: laid · FnExactKernelPlay: laid · FnSeesNone: laid · FnSees: laid · FnCall: laid.
  DERIVED. THE GIVEN ROWS OF THIS SEAT. 5 by the template 'for every input the law returns true; each argument reads behind the call as it read before'; 0 by the template 'total and deterministic' (their statements: YtliebkfligagnaaGreatDoorTotals.lean).
  GIVEN WITH THE SEED: the statements are not yours to turn. If you find one false, say at which input.
  Laid BY PROGRAM, IN A SANDBOX (cutbox-rows.mjs): the forced cells as the released guide's own fill.sh prints them over the translation 1416fb25d04e6332… (all of the seat's roots in one cut). By AI agents, Wed Nov 11 2026. No macro, syntax, notation, axiom, sorry.
-/
import Derived.Test.YtliebkfligagnaaGreatDoorChecked
import GoSem.PinnedTables
import GoSem.Claim
import GoSem.ClaimJoined
import GoSem.ClaimMapViews
import Derived.JoinedTies
import Derived.KernelRfl
namespace Go.Proofs.YtliebkfligagnaaGreatDoor
/- THE CELL 'sum', in the pinned program and in every row, IS THE sha256 OF THE DUMP (.gsa) THAT YtliebkfligagnaaGreatDoorProg.lean LOADS. Nothing in Lean hashes anything: it is a label: what it is worth is what the hold of that sum in a sandbox is worth. -/
noncomputable def Tryz.pinned : Pinned := { name := "ytliebkfligagnaagreatdoor", sum := "1416fb25d04e63321932202bec82823bf6b277485320dda39a007fe9a1e09359", checked := Tryz.checked }
namespace Rows
def none {H : Type} : Left H := { results := [], args := [] }

/- WHAT THE LISTED PACKAGE-LEVEL VARIABLES READ AS WHEN THE CALL BEGINS. Each datum BY PROGRAM (the guide's laid-datum.mjs) off the statement by which the dump's own 'gosem.cut.vars' lays the variable. In a bare row this is a premise. The card (YtliebkfligagnaaGreatDoorCards.lean) ties it to the program's text. -/
def laid_unicode_utf8_acceptRanges {H : Type} : DataW H := .agg [.agg [.lit (.int .u8 128), .lit (.int .u8 191)], .agg [.lit (.int .u8 160), .lit (.int .u8 191)], .agg [.lit (.int .u8 128), .lit (.int .u8 159)], .agg [.lit (.int .u8 144), .lit (.int .u8 191)], .agg [.lit (.int .u8 128), .lit (.int .u8 143)], .agg [.lit (.int .u8 0), .lit (.int .u8 0)], .agg [.lit (.int .u8 0), .lit (.int .u8 0)], .agg [.lit (.int .u8 0), .lit (.int .u8 0)], .agg [.lit (.int .u8 0), .lit (.int .u8 0)], .agg [.lit (.int .u8 0), .lit (.int .u8 0)], .agg [.lit (.int .u8 0), .lit (.int .u8 0)], .agg [.lit (.int .u8 0), .lit (.int .u8 0)], .agg [.lit (.int .u8 0), .lit (.int .u8 0)], .agg [.lit (.int .u8 0), .lit (.int .u8 0)], .agg [.lit (.int .u8 0), .lit (.int .u8 0)], .agg [.lit (.int .u8 0), .lit (.int .u8 0)]]
/-- One of Go's own tables, pinned by name: the form's constant. -/
def laid_unicode_utf8_first : DataW Unit := Go.Pinned.utf8First

/-- 'laws.FnExactKernelCall': WHATEVER THE INPUT: true; the input reads as it did. -/
def fnExactKernelCallSpec : ChangeSpec := { name := "fnExactKernelCall", fn := fun _ => fun
  | [d1, d2] => { results := [.lit (.bool true)], args := [d1, d2] }
  | _ => none }
def fnExactKernelCallRow : OpenClaim := { program := "ytliebkfligagnaagreatdoor", sum := "1416fb25d04e63321932202bec82823bf6b277485320dda39a007fe9a1e09359", func := "loop.example/exopager/laws.FnExactKernelCall", spec := "fnExactKernelCall", inPlace := ["internal/bytealg.IndexByteString", "internal/bytealg.IndexString", "slices.overlaps[string]"], unfollowed := true, recurses := true, named := ["unicode/utf8.first", "unicode/utf8.acceptRanges", "internal/bytealg.MaxLen"], apart := false, laid := [("unicode/utf8.acceptRanges", laid_unicode_utf8_acceptRanges), ("unicode/utf8.first", laid_unicode_utf8_first)] }
def FnExactKernelCallSaid : Prop := fnExactKernelCallRow.holds Tryz.pinned (OpenSpec.ofChange fnExactKernelCallSpec)

/-- ITS FALSE NEIGHBOUR: 'it returns false'. Refute it at one input. -/
def fnExactKernelCallWrong : ChangeSpec := { name := "fnExactKernelCall", fn := fun _ => fun
  | [d1, d2] => { results := [.lit (.bool false)], args := [d1, d2] }
  | _ => none }
def FnExactKernelCallWrongFalsely : Prop := fnExactKernelCallRow.holds Tryz.pinned (OpenSpec.ofChange fnExactKernelCallWrong)

/-- 'laws.FnExactKernelPlay': WHATEVER THE INPUT: true; the input reads as it did. -/
def fnExactKernelPlaySpec : ChangeSpec := { name := "fnExactKernelPlay", fn := fun _ => fun
  | [d1, d2] => { results := [.lit (.bool true)], args := [d1, d2] }
  | _ => none }
def fnExactKernelPlayRow : OpenClaim := { program := "ytliebkfligagnaagreatdoor", sum := "1416fb25d04e63321932202bec82823bf6b277485320dda39a007fe9a1e09359", func := "loop.example/exopager/laws.FnExactKernelPlay", spec := "fnExactKernelPlay", inPlace := ["internal/bytealg.IndexByteString", "internal/bytealg.IndexString", "slices.overlaps[string]"], unfollowed := true, recurses := true, named := ["unicode/utf8.first", "unicode/utf8.acceptRanges", "internal/bytealg.MaxLen"], apart := false, laid := [("unicode/utf8.acceptRanges", laid_unicode_utf8_acceptRanges), ("unicode/utf8.first", laid_unicode_utf8_first)] }
def FnExactKernelPlaySaid : Prop := fnExactKernelPlayRow.holds Tryz.pinned (OpenSpec.ofChange fnExactKernelPlaySpec)

/-- ITS FALSE NEIGHBOUR: 'it returns false'. Refute it at one input. -/
def fnExactKernelPlayWrong : ChangeSpec := { name := "fnExactKernelPlay", fn := fun _ => fun
  | [d1, d2] => { results := [.lit (.bool false)], args := [d1, d2] }
  | _ => none }
def FnExactKernelPlayWrongFalsely : Prop := fnExactKernelPlayRow.holds Tryz.pinned (OpenSpec.ofChange fnExactKernelPlayWrong)

/-- 'laws.FnSeesNone': WHATEVER THE INPUT: true; the input reads as it did. -/
def fnSeesNoneSpec : ChangeSpec := { name := "fnSeesNone", fn := fun _ => fun
  | [d] => { results := [.lit (.bool true)], args := [d] }
  | _ => none }
def fnSeesNoneRow : OpenClaim := { program := "ytliebkfligagnaagreatdoor", sum := "1416fb25d04e63321932202bec82823bf6b277485320dda39a007fe9a1e09359", func := "loop.example/exopager/laws.FnSeesNone", spec := "fnSeesNone", inPlace := ["internal/bytealg.IndexByteString", "internal/bytealg.IndexString"], unfollowed := true, recurses := true, named := ["unicode/utf8.first", "unicode/utf8.acceptRanges", "internal/bytealg.MaxLen"], apart := false, laid := [("unicode/utf8.acceptRanges", laid_unicode_utf8_acceptRanges), ("unicode/utf8.first", laid_unicode_utf8_first)] }
def FnSeesNoneSaid : Prop := fnSeesNoneRow.holds Tryz.pinned (OpenSpec.ofChange fnSeesNoneSpec)

/-- ITS FALSE NEIGHBOUR: 'it returns false'. Refute it at one input. -/
def fnSeesNoneWrong : ChangeSpec := { name := "fnSeesNone", fn := fun _ => fun
  | [d] => { results := [.lit (.bool false)], args := [d] }
  | _ => none }
def FnSeesNoneWrongFalsely : Prop := fnSeesNoneRow.holds Tryz.pinned (OpenSpec.ofChange fnSeesNoneWrong)

/-- 'laws.FnSees': WHATEVER THE INPUT: true; the input reads as it did. -/
def fnSeesSpec : ChangeSpec := { name := "fnSees", fn := fun _ => fun
  | [d] => { results := [.lit (.bool true)], args := [d] }
  | _ => none }
def fnSeesRow : OpenClaim := { program := "ytliebkfligagnaagreatdoor", sum := "1416fb25d04e63321932202bec82823bf6b277485320dda39a007fe9a1e09359", func := "loop.example/exopager/laws.FnSees", spec := "fnSees", inPlace := ["internal/bytealg.IndexByteString", "internal/bytealg.IndexString"], unfollowed := true, recurses := true, named := ["unicode/utf8.first", "unicode/utf8.acceptRanges", "internal/bytealg.MaxLen"], apart := false, laid := [("unicode/utf8.acceptRanges", laid_unicode_utf8_acceptRanges), ("unicode/utf8.first", laid_unicode_utf8_first)] }
def FnSeesSaid : Prop := fnSeesRow.holds Tryz.pinned (OpenSpec.ofChange fnSeesSpec)

/-- ITS FALSE NEIGHBOUR: 'it returns false'. Refute it at one input. -/
def fnSeesWrong : ChangeSpec := { name := "fnSees", fn := fun _ => fun
  | [d] => { results := [.lit (.bool false)], args := [d] }
  | _ => none }
def FnSeesWrongFalsely : Prop := fnSeesRow.holds Tryz.pinned (OpenSpec.ofChange fnSeesWrong)

/-- 'laws.FnCall': WHATEVER THE INPUT: true; the input reads as it did. -/
def fnCallSpec : ChangeSpec := { name := "fnCall", fn := fun _ => fun
  | [d] => { results := [.lit (.bool true)], args := [d] }
  | _ => none }
def fnCallRow : OpenClaim := { program := "ytliebkfligagnaagreatdoor", sum := "1416fb25d04e63321932202bec82823bf6b277485320dda39a007fe9a1e09359", func := "loop.example/exopager/laws.FnCall", spec := "fnCall", inPlace := ["internal/bytealg.IndexByteString", "internal/bytealg.IndexString", "slices.overlaps[string]"], unfollowed := true, recurses := true, named := ["unicode/utf8.first", "unicode/utf8.acceptRanges", "internal/bytealg.MaxLen"], apart := false, laid := [("unicode/utf8.acceptRanges", laid_unicode_utf8_acceptRanges), ("unicode/utf8.first", laid_unicode_utf8_first)] }
def FnCallSaid : Prop := fnCallRow.holds Tryz.pinned (OpenSpec.ofChange fnCallSpec)

/-- ITS FALSE NEIGHBOUR: 'it returns false'. Refute it at one input. -/
def fnCallWrong : ChangeSpec := { name := "fnCall", fn := fun _ => fun
  | [d] => { results := [.lit (.bool false)], args := [d] }
  | _ => none }
def FnCallWrongFalsely : Prop := fnCallRow.holds Tryz.pinned (OpenSpec.ofChange fnCallWrong)

/- THE SECOND FORM. 'bulk': how many values and letters a reading holds, each counted each time it is reached (what is shared counts as often as it is met; a slice's spare places count too). A statement '..UptoSaid' is the law's where the arguments, and the package variables that the reading takes, are together of bulk at most 1048576: NARROWER than '..Said'. Prove '..Said' where nothing that the law and all that it calls make is longer than what came in: it says more and counts as full. Else prove '..UptoSaid'. A law counts once. -/
mutual
def uptoBulk {H : Type} : DataW H → Nat
  | .lit (.string bytes) => bytes.length + 1
  | .lit _ => 1
  | .nil => 1
  | .ptr d => uptoBulk d + 1
  | .slice elems spare => uptoBulkAll elems + uptoBulkAll spare + 1
  | .agg parts => uptoBulkAll parts + 1
  | .iface _ d => uptoBulk d + 1
  | .map entries => uptoBulkEntries entries + 1
  | .held _ => 1
def uptoBulkAll {H : Type} : List (DataW H) → Nat
  | [] => 0
  | d :: r => uptoBulk d + uptoBulkAll r
def uptoBulkEntries {H : Type} : List (Lit × DataW H) → Nat
  | [] => 0
  | x :: r => uptoBulkEntry x + uptoBulkEntries r
def uptoBulkEntry {H : Type} : Lit × DataW H → Nat
  | (.string bytes, d) => bytes.length + uptoBulk d + 1
  | (_, d) => uptoBulk d + 1
 end
def uptoSmall : (H : Type) → List (DataW H) → Bool := fun _ ds => decide (uptoBulkAll ds ≤ 1048576)
def OpenSpec.upto (s : _root_.Go.ChangeSpec) : _root_.Go.OpenSpec := { _root_.Go.OpenSpec.ofChange s with cond := some uptoSmall }

/-- 'laws.FnExactKernelCall', WHERE WHAT IT READS IS OF BULK AT MOST 1048576: true; the input reads as it did. -/
def fnExactKernelCallUptoRow : OpenClaim := { program := "ytliebkfligagnaagreatdoor", sum := "1416fb25d04e63321932202bec82823bf6b277485320dda39a007fe9a1e09359", func := "loop.example/exopager/laws.FnExactKernelCall", spec := "fnExactKernelCall", inPlace := ["internal/bytealg.IndexByteString", "internal/bytealg.IndexString", "slices.overlaps[string]"], unfollowed := true, recurses := true, named := ["unicode/utf8.first", "unicode/utf8.acceptRanges", "internal/bytealg.MaxLen"], apart := false, laid := [("unicode/utf8.acceptRanges", laid_unicode_utf8_acceptRanges), ("unicode/utf8.first", laid_unicode_utf8_first)], narrowed := true }
def FnExactKernelCallUptoSaid : Prop := fnExactKernelCallUptoRow.holds Tryz.pinned (OpenSpec.upto fnExactKernelCallSpec)

/-- 'laws.FnExactKernelPlay', WHERE WHAT IT READS IS OF BULK AT MOST 1048576: true; the input reads as it did. -/
def fnExactKernelPlayUptoRow : OpenClaim := { program := "ytliebkfligagnaagreatdoor", sum := "1416fb25d04e63321932202bec82823bf6b277485320dda39a007fe9a1e09359", func := "loop.example/exopager/laws.FnExactKernelPlay", spec := "fnExactKernelPlay", inPlace := ["internal/bytealg.IndexByteString", "internal/bytealg.IndexString", "slices.overlaps[string]"], unfollowed := true, recurses := true, named := ["unicode/utf8.first", "unicode/utf8.acceptRanges", "internal/bytealg.MaxLen"], apart := false, laid := [("unicode/utf8.acceptRanges", laid_unicode_utf8_acceptRanges), ("unicode/utf8.first", laid_unicode_utf8_first)], narrowed := true }
def FnExactKernelPlayUptoSaid : Prop := fnExactKernelPlayUptoRow.holds Tryz.pinned (OpenSpec.upto fnExactKernelPlaySpec)

/-- 'laws.FnSeesNone', WHERE WHAT IT READS IS OF BULK AT MOST 1048576: true; the input reads as it did. -/
def fnSeesNoneUptoRow : OpenClaim := { program := "ytliebkfligagnaagreatdoor", sum := "1416fb25d04e63321932202bec82823bf6b277485320dda39a007fe9a1e09359", func := "loop.example/exopager/laws.FnSeesNone", spec := "fnSeesNone", inPlace := ["internal/bytealg.IndexByteString", "internal/bytealg.IndexString"], unfollowed := true, recurses := true, named := ["unicode/utf8.first", "unicode/utf8.acceptRanges", "internal/bytealg.MaxLen"], apart := false, laid := [("unicode/utf8.acceptRanges", laid_unicode_utf8_acceptRanges), ("unicode/utf8.first", laid_unicode_utf8_first)], narrowed := true }
def FnSeesNoneUptoSaid : Prop := fnSeesNoneUptoRow.holds Tryz.pinned (OpenSpec.upto fnSeesNoneSpec)

/-- 'laws.FnSees', WHERE WHAT IT READS IS OF BULK AT MOST 1048576: true; the input reads as it did. -/
def fnSeesUptoRow : OpenClaim := { program := "ytliebkfligagnaagreatdoor", sum := "1416fb25d04e63321932202bec82823bf6b277485320dda39a007fe9a1e09359", func := "loop.example/exopager/laws.FnSees", spec := "fnSees", inPlace := ["internal/bytealg.IndexByteString", "internal/bytealg.IndexString"], unfollowed := true, recurses := true, named := ["unicode/utf8.first", "unicode/utf8.acceptRanges", "internal/bytealg.MaxLen"], apart := false, laid := [("unicode/utf8.acceptRanges", laid_unicode_utf8_acceptRanges), ("unicode/utf8.first", laid_unicode_utf8_first)], narrowed := true }
def FnSeesUptoSaid : Prop := fnSeesUptoRow.holds Tryz.pinned (OpenSpec.upto fnSeesSpec)

/-- 'laws.FnCall', WHERE WHAT IT READS IS OF BULK AT MOST 1048576: true; the input reads as it did. -/
def fnCallUptoRow : OpenClaim := { program := "ytliebkfligagnaagreatdoor", sum := "1416fb25d04e63321932202bec82823bf6b277485320dda39a007fe9a1e09359", func := "loop.example/exopager/laws.FnCall", spec := "fnCall", inPlace := ["internal/bytealg.IndexByteString", "internal/bytealg.IndexString", "slices.overlaps[string]"], unfollowed := true, recurses := true, named := ["unicode/utf8.first", "unicode/utf8.acceptRanges", "internal/bytealg.MaxLen"], apart := false, laid := [("unicode/utf8.acceptRanges", laid_unicode_utf8_acceptRanges), ("unicode/utf8.first", laid_unicode_utf8_first)], narrowed := true }
def FnCallUptoSaid : Prop := fnCallUptoRow.holds Tryz.pinned (OpenSpec.upto fnCallSpec)

end Rows
end Go.Proofs.YtliebkfligagnaaGreatDoor
