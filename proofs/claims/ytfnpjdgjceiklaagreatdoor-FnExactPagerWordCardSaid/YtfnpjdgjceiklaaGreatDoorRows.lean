/-
  NARROWER THAN 'FOR EVERY INPUT', by the rows' own cells (each row's printed sentence says how): FnExactPagerValid: laid · FnExactPagerWord: laid · FnExactKernelCall: laid · FnExactKernelPlay: laid.
  DERIVED. THE GIVEN ROWS OF THIS SEAT. 4 by the template 'for every input the law returns true; each argument reads behind the call as it read before'; 0 by the template 'total and deterministic' (their statements: YtfnpjdgjceiklaaGreatDoorTotals.lean).
  GIVEN WITH THE SEED: the statements are not yours to turn. If you find one false, say at which input.
  Laid BY PROGRAM, IN A SANDBOX (cutbox-rows.mjs): the forced cells as the released guide's own fill.sh prints them over the translation 4e6726d130cad3dc… (all of the seat's roots in one cut). By AI agents, Wed Nov 11 2026. No macro, syntax, notation, axiom, sorry.
-/
import Derived.Test.YtfnpjdgjceiklaaGreatDoorChecked
import GoSem.PinnedTables
import GoSem.Claim
import GoSem.ClaimJoined
import GoSem.ClaimMapViews
import Derived.JoinedTies
import Derived.KernelRfl
namespace Go.Proofs.YtfnpjdgjceiklaaGreatDoor
/- THE CELL 'sum', in the pinned program and in every row, IS THE sha256 OF THE DUMP (.gsa) THAT YtfnpjdgjceiklaaGreatDoorProg.lean LOADS. Nothing in Lean hashes anything: it is a label: what it is worth is what the hold of that sum in a sandbox is worth. -/
noncomputable def Tryz.pinned : Pinned := { name := "ytfnpjdgjceiklaagreatdoor", sum := "4e6726d130cad3dcd2f2c73f39b210b0d720c7bfab727a5fe059105400dca0ea", checked := Tryz.checked }
namespace Rows
def none {H : Type} : Left H := { results := [], args := [] }

/- WHAT THE LISTED PACKAGE-LEVEL VARIABLES READ AS WHEN THE CALL BEGINS. Each datum BY PROGRAM (the guide's laid-datum.mjs) off the statement by which the dump's own 'gosem.cut.vars' lays the variable. In a bare row this is a premise. The card (YtfnpjdgjceiklaaGreatDoorCards.lean) ties it to the program's text. -/
def laid_unicode_utf8_acceptRanges {H : Type} : DataW H := .agg [.agg [.lit (.int .u8 128), .lit (.int .u8 191)], .agg [.lit (.int .u8 160), .lit (.int .u8 191)], .agg [.lit (.int .u8 128), .lit (.int .u8 159)], .agg [.lit (.int .u8 144), .lit (.int .u8 191)], .agg [.lit (.int .u8 128), .lit (.int .u8 143)], .agg [.lit (.int .u8 0), .lit (.int .u8 0)], .agg [.lit (.int .u8 0), .lit (.int .u8 0)], .agg [.lit (.int .u8 0), .lit (.int .u8 0)], .agg [.lit (.int .u8 0), .lit (.int .u8 0)], .agg [.lit (.int .u8 0), .lit (.int .u8 0)], .agg [.lit (.int .u8 0), .lit (.int .u8 0)], .agg [.lit (.int .u8 0), .lit (.int .u8 0)], .agg [.lit (.int .u8 0), .lit (.int .u8 0)], .agg [.lit (.int .u8 0), .lit (.int .u8 0)], .agg [.lit (.int .u8 0), .lit (.int .u8 0)], .agg [.lit (.int .u8 0), .lit (.int .u8 0)]]
/-- One of Go's own tables, pinned by name: the form's constant. -/
def laid_unicode_utf8_first : DataW Unit := Go.Pinned.utf8First

/-- 'laws.FnExactPagerValid': WHATEVER THE INPUT: true; the input reads as it did. -/
def fnExactPagerValidSpec : ChangeSpec := { name := "fnExactPagerValid", fn := fun _ => fun
  | [d] => { results := [.lit (.bool true)], args := [d] }
  | _ => none }
def fnExactPagerValidRow : OpenClaim := { program := "ytfnpjdgjceiklaagreatdoor", sum := "4e6726d130cad3dcd2f2c73f39b210b0d720c7bfab727a5fe059105400dca0ea", func := "loop.example/exopager/laws.FnExactPagerValid", spec := "fnExactPagerValid", inPlace := ["internal/bytealg.IndexByteString", "internal/bytealg.IndexString"], unfollowed := true, recurses := true, named := ["unicode/utf8.first", "unicode/utf8.acceptRanges", "internal/bytealg.MaxLen"], apart := false, laid := [("unicode/utf8.acceptRanges", laid_unicode_utf8_acceptRanges), ("unicode/utf8.first", laid_unicode_utf8_first)] }
def FnExactPagerValidSaid : Prop := fnExactPagerValidRow.holds Tryz.pinned (OpenSpec.ofChange fnExactPagerValidSpec)

/-- ITS FALSE NEIGHBOUR: 'it returns false'. Refute it at one input. -/
def fnExactPagerValidWrong : ChangeSpec := { name := "fnExactPagerValid", fn := fun _ => fun
  | [d] => { results := [.lit (.bool false)], args := [d] }
  | _ => none }
def FnExactPagerValidWrongFalsely : Prop := fnExactPagerValidRow.holds Tryz.pinned (OpenSpec.ofChange fnExactPagerValidWrong)

/-- 'laws.FnExactPagerWord': WHATEVER THE INPUT: true; the input reads as it did. -/
def fnExactPagerWordSpec : ChangeSpec := { name := "fnExactPagerWord", fn := fun _ => fun
  | [d1, d2] => { results := [.lit (.bool true)], args := [d1, d2] }
  | _ => none }
def fnExactPagerWordRow : OpenClaim := { program := "ytfnpjdgjceiklaagreatdoor", sum := "4e6726d130cad3dcd2f2c73f39b210b0d720c7bfab727a5fe059105400dca0ea", func := "loop.example/exopager/laws.FnExactPagerWord", spec := "fnExactPagerWord", inPlace := ["internal/bytealg.IndexByteString", "internal/bytealg.IndexString"], unfollowed := true, recurses := true, named := ["unicode/utf8.first", "unicode/utf8.acceptRanges", "internal/bytealg.MaxLen"], apart := false, laid := [("unicode/utf8.acceptRanges", laid_unicode_utf8_acceptRanges), ("unicode/utf8.first", laid_unicode_utf8_first)] }
def FnExactPagerWordSaid : Prop := fnExactPagerWordRow.holds Tryz.pinned (OpenSpec.ofChange fnExactPagerWordSpec)

/-- ITS FALSE NEIGHBOUR: 'it returns false'. Refute it at one input. -/
def fnExactPagerWordWrong : ChangeSpec := { name := "fnExactPagerWord", fn := fun _ => fun
  | [d1, d2] => { results := [.lit (.bool false)], args := [d1, d2] }
  | _ => none }
def FnExactPagerWordWrongFalsely : Prop := fnExactPagerWordRow.holds Tryz.pinned (OpenSpec.ofChange fnExactPagerWordWrong)

/-- 'laws.FnExactKernelCall': WHATEVER THE INPUT: true; the input reads as it did. -/
def fnExactKernelCallSpec : ChangeSpec := { name := "fnExactKernelCall", fn := fun _ => fun
  | [d1, d2] => { results := [.lit (.bool true)], args := [d1, d2] }
  | _ => none }
def fnExactKernelCallRow : OpenClaim := { program := "ytfnpjdgjceiklaagreatdoor", sum := "4e6726d130cad3dcd2f2c73f39b210b0d720c7bfab727a5fe059105400dca0ea", func := "loop.example/exopager/laws.FnExactKernelCall", spec := "fnExactKernelCall", inPlace := ["internal/bytealg.IndexByteString", "internal/bytealg.IndexString", "slices.overlaps[string]"], unfollowed := true, recurses := true, named := ["unicode/utf8.first", "unicode/utf8.acceptRanges", "internal/bytealg.MaxLen"], apart := false, laid := [("unicode/utf8.acceptRanges", laid_unicode_utf8_acceptRanges), ("unicode/utf8.first", laid_unicode_utf8_first)] }
def FnExactKernelCallSaid : Prop := fnExactKernelCallRow.holds Tryz.pinned (OpenSpec.ofChange fnExactKernelCallSpec)

/-- ITS FALSE NEIGHBOUR: 'it returns false'. Refute it at one input. -/
def fnExactKernelCallWrong : ChangeSpec := { name := "fnExactKernelCall", fn := fun _ => fun
  | [d1, d2] => { results := [.lit (.bool false)], args := [d1, d2] }
  | _ => none }
def FnExactKernelCallWrongFalsely : Prop := fnExactKernelCallRow.holds Tryz.pinned (OpenSpec.ofChange fnExactKernelCallWrong)

/-- 'laws.FnExactKernelPlay': WHATEVER THE INPUT: true; the input reads as it did. -/
def fnExactKernelPlaySpec : ChangeSpec := { name := "fnExactKernelPlay", fn := fun _ => fun
  | [d1, d2] => { results := [.lit (.bool true)], args := [d1, d2] }
  | _ => none }
def fnExactKernelPlayRow : OpenClaim := { program := "ytfnpjdgjceiklaagreatdoor", sum := "4e6726d130cad3dcd2f2c73f39b210b0d720c7bfab727a5fe059105400dca0ea", func := "loop.example/exopager/laws.FnExactKernelPlay", spec := "fnExactKernelPlay", inPlace := ["internal/bytealg.IndexByteString", "internal/bytealg.IndexString", "slices.overlaps[string]"], unfollowed := true, recurses := true, named := ["unicode/utf8.first", "unicode/utf8.acceptRanges", "internal/bytealg.MaxLen"], apart := false, laid := [("unicode/utf8.acceptRanges", laid_unicode_utf8_acceptRanges), ("unicode/utf8.first", laid_unicode_utf8_first)] }
def FnExactKernelPlaySaid : Prop := fnExactKernelPlayRow.holds Tryz.pinned (OpenSpec.ofChange fnExactKernelPlaySpec)

/-- ITS FALSE NEIGHBOUR: 'it returns false'. Refute it at one input. -/
def fnExactKernelPlayWrong : ChangeSpec := { name := "fnExactKernelPlay", fn := fun _ => fun
  | [d1, d2] => { results := [.lit (.bool false)], args := [d1, d2] }
  | _ => none }
def FnExactKernelPlayWrongFalsely : Prop := fnExactKernelPlayRow.holds Tryz.pinned (OpenSpec.ofChange fnExactKernelPlayWrong)

/- THE SECOND FORM. 'bulk': how many values and letters a reading holds, each counted each time it is reached (what is shared counts as often as it is met; a slice's spare places count too). A statement '..UptoSaid' is the law's where the arguments, and the package variables that the reading takes, are together of bulk at most 1048576: NARROWER than '..Said'. Prove '..Said' where nothing that the law and all that it calls make is longer than what came in: it says more and counts as full. Else prove '..UptoSaid'. A law counts once. -/
mutual
def uptoBulk {H : Type} : DataW H → Nat
  | .lit (.string bytes) => bytes.length + 1
  | .lit _ => 1
  | .nil => 1
  | .ptr d => uptoBulk d + 1
  | .slice elems spare => uptoBulkAll elems + uptoBulkAll spare + 1
  | .agg parts => uptoBulkAll parts + 1
  | .iface _ d => uptoBulk d + 1
  | .map entries => uptoBulkEntries entries + 1
  | .held _ => 1
def uptoBulkAll {H : Type} : List (DataW H) → Nat
  | [] => 0
  | d :: r => uptoBulk d + uptoBulkAll r
def uptoBulkEntries {H : Type} : List (Lit × DataW H) → Nat
  | [] => 0
  | x :: r => uptoBulkEntry x + uptoBulkEntries r
def uptoBulkEntry {H : Type} : Lit × DataW H → Nat
  | (.string bytes, d) => bytes.length + uptoBulk d + 1
  | (_, d) => uptoBulk d + 1
 end
def uptoSmall : (H : Type) → List (DataW H) → Bool := fun _ ds => decide (uptoBulkAll ds ≤ 1048576)
def OpenSpec.upto (s : _root_.Go.ChangeSpec) : _root_.Go.OpenSpec := { _root_.Go.OpenSpec.ofChange s with cond := some uptoSmall }

/-- 'laws.FnExactPagerValid', WHERE WHAT IT READS IS OF BULK AT MOST 1048576: true; the input reads as it did. -/
def fnExactPagerValidUptoRow : OpenClaim := { program := "ytfnpjdgjceiklaagreatdoor", sum := "4e6726d130cad3dcd2f2c73f39b210b0d720c7bfab727a5fe059105400dca0ea", func := "loop.example/exopager/laws.FnExactPagerValid", spec := "fnExactPagerValid", inPlace := ["internal/bytealg.IndexByteString", "internal/bytealg.IndexString"], unfollowed := true, recurses := true, named := ["unicode/utf8.first", "unicode/utf8.acceptRanges", "internal/bytealg.MaxLen"], apart := false, laid := [("unicode/utf8.acceptRanges", laid_unicode_utf8_acceptRanges), ("unicode/utf8.first", laid_unicode_utf8_first)], narrowed := true }
def FnExactPagerValidUptoSaid : Prop := fnExactPagerValidUptoRow.holds Tryz.pinned (OpenSpec.upto fnExactPagerValidSpec)

/-- 'laws.FnExactPagerWord', WHERE WHAT IT READS IS OF BULK AT MOST 1048576: true; the input reads as it did. -/
def fnExactPagerWordUptoRow : OpenClaim := { program := "ytfnpjdgjceiklaagreatdoor", sum := "4e6726d130cad3dcd2f2c73f39b210b0d720c7bfab727a5fe059105400dca0ea", func := "loop.example/exopager/laws.FnExactPagerWord", spec := "fnExactPagerWord", inPlace := ["internal/bytealg.IndexByteString", "internal/bytealg.IndexString"], unfollowed := true, recurses := true, named := ["unicode/utf8.first", "unicode/utf8.acceptRanges", "internal/bytealg.MaxLen"], apart := false, laid := [("unicode/utf8.acceptRanges", laid_unicode_utf8_acceptRanges), ("unicode/utf8.first", laid_unicode_utf8_first)], narrowed := true }
def FnExactPagerWordUptoSaid : Prop := fnExactPagerWordUptoRow.holds Tryz.pinned (OpenSpec.upto fnExactPagerWordSpec)

/-- 'laws.FnExactKernelCall', WHERE WHAT IT READS IS OF BULK AT MOST 1048576: true; the input reads as it did. -/
def fnExactKernelCallUptoRow : OpenClaim := { program := "ytfnpjdgjceiklaagreatdoor", sum := "4e6726d130cad3dcd2f2c73f39b210b0d720c7bfab727a5fe059105400dca0ea", func := "loop.example/exopager/laws.FnExactKernelCall", spec := "fnExactKernelCall", inPlace := ["internal/bytealg.IndexByteString", "internal/bytealg.IndexString", "slices.overlaps[string]"], unfollowed := true, recurses := true, named := ["unicode/utf8.first", "unicode/utf8.acceptRanges", "internal/bytealg.MaxLen"], apart := false, laid := [("unicode/utf8.acceptRanges", laid_unicode_utf8_acceptRanges), ("unicode/utf8.first", laid_unicode_utf8_first)], narrowed := true }
def FnExactKernelCallUptoSaid : Prop := fnExactKernelCallUptoRow.holds Tryz.pinned (OpenSpec.upto fnExactKernelCallSpec)

/-- 'laws.FnExactKernelPlay', WHERE WHAT IT READS IS OF BULK AT MOST 1048576: true; the input reads as it did. -/
def fnExactKernelPlayUptoRow : OpenClaim := { program := "ytfnpjdgjceiklaagreatdoor", sum := "4e6726d130cad3dcd2f2c73f39b210b0d720c7bfab727a5fe059105400dca0ea", func := "loop.example/exopager/laws.FnExactKernelPlay", spec := "fnExactKernelPlay", inPlace := ["internal/bytealg.IndexByteString", "internal/bytealg.IndexString", "slices.overlaps[string]"], unfollowed := true, recurses := true, named := ["unicode/utf8.first", "unicode/utf8.acceptRanges", "internal/bytealg.MaxLen"], apart := false, laid := [("unicode/utf8.acceptRanges", laid_unicode_utf8_acceptRanges), ("unicode/utf8.first", laid_unicode_utf8_first)], narrowed := true }
def FnExactKernelPlayUptoSaid : Prop := fnExactKernelPlayUptoRow.holds Tryz.pinned (OpenSpec.upto fnExactKernelPlaySpec)

end Rows
end Go.Proofs.YtfnpjdgjceiklaaGreatDoor
