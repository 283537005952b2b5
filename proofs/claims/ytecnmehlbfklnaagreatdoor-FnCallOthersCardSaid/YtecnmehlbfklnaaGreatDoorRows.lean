/-
  NARROWER THAN 'FOR EVERY INPUT', by the rows' own cells (each row's printed sentence says how): FnCall: laid · FnCallCache: laid · FnCallInvalid: laid · FnCallOthers: laid · FnCallPin: laid · FnCallRefused: laid · FnGive: laid · FnRoot: laid · FnCallAlien: laid · FnGrant: laid.
  DERIVED. THE GIVEN ROWS OF THIS SEAT. 10 by the template 'for every input the law returns true; each argument reads behind the call as it read before'; 0 by the template 'total and deterministic' (their statements: YtecnmehlbfklnaaGreatDoorTotals.lean).
  GIVEN WITH THE SEED: the statements are not yours to turn. If you find one false, say at which input.
  Laid BY PROGRAM, IN A SANDBOX (cutbox-rows.mjs): the forced cells as the released guide's own fill.sh prints them over the translation b8a87674453bead3… (all of the seat's roots in one cut). By AI agents, Wed Nov 11 2026. No macro, syntax, notation, axiom, sorry.
-/
import Derived.Test.YtecnmehlbfklnaaGreatDoorChecked
import GoSem.PinnedTables
import GoSem.Claim
import GoSem.ClaimJoined
import GoSem.ClaimMapViews
import Derived.JoinedTies
import Derived.KernelRfl
namespace Go.Proofs.YtecnmehlbfklnaaGreatDoor
/- THE CELL 'sum', in the pinned program and in every row, IS THE sha256 OF THE DUMP (.gsa) THAT YtecnmehlbfklnaaGreatDoorProg.lean LOADS. Nothing in Lean hashes anything: it is a label: what it is worth is what the hold of that sum in a sandbox is worth. -/
noncomputable def Tryz.pinned : Pinned := { name := "ytecnmehlbfklnaagreatdoor", sum := "b8a87674453bead3c03296754d8cdde68d785913ae81eb06f8970ea3efb0a0a6", checked := Tryz.checked }
namespace Rows
def none {H : Type} : Left H := { results := [], args := [] }

/- WHAT THE LISTED PACKAGE-LEVEL VARIABLES READ AS WHEN THE CALL BEGINS. Each datum BY PROGRAM (the guide's laid-datum.mjs) off the statement by which the dump's own 'gosem.cut.vars' lays the variable. In a bare row this is a premise. The card (YtecnmehlbfklnaaGreatDoorCards.lean) ties it to the program's text. -/
def laid_unicode_utf8_acceptRanges {H : Type} : DataW H := .agg [.agg [.lit (.int .u8 128), .lit (.int .u8 191)], .agg [.lit (.int .u8 160), .lit (.int .u8 191)], .agg [.lit (.int .u8 128), .lit (.int .u8 159)], .agg [.lit (.int .u8 144), .lit (.int .u8 191)], .agg [.lit (.int .u8 128), .lit (.int .u8 143)], .agg [.lit (.int .u8 0), .lit (.int .u8 0)], .agg [.lit (.int .u8 0), .lit (.int .u8 0)], .agg [.lit (.int .u8 0), .lit (.int .u8 0)], .agg [.lit (.int .u8 0), .lit (.int .u8 0)], .agg [.lit (.int .u8 0), .lit (.int .u8 0)], .agg [.lit (.int .u8 0), .lit (.int .u8 0)], .agg [.lit (.int .u8 0), .lit (.int .u8 0)], .agg [.lit (.int .u8 0), .lit (.int .u8 0)], .agg [.lit (.int .u8 0), .lit (.int .u8 0)], .agg [.lit (.int .u8 0), .lit (.int .u8 0)], .agg [.lit (.int .u8 0), .lit (.int .u8 0)]]
/-- One of Go's own tables, pinned by name: the form's constant. -/
def laid_unicode_utf8_first : DataW Unit := Go.Pinned.utf8First

/-- 'laws.FnCall': WHATEVER THE INPUT: true; the input reads as it did. -/
def fnCallSpec : ChangeSpec := { name := "fnCall", fn := fun _ => fun
  | [d] => { results := [.lit (.bool true)], args := [d] }
  | _ => none }
def fnCallRow : OpenClaim := { program := "ytecnmehlbfklnaagreatdoor", sum := "b8a87674453bead3c03296754d8cdde68d785913ae81eb06f8970ea3efb0a0a6", func := "loop.example/exopager/laws.FnCall", spec := "fnCall", inPlace := ["internal/bytealg.IndexByteString", "internal/bytealg.IndexString", "slices.overlaps[string]"], unfollowed := true, recurses := true, named := ["unicode/utf8.first", "unicode/utf8.acceptRanges", "internal/bytealg.MaxLen"], apart := false, laid := [("unicode/utf8.acceptRanges", laid_unicode_utf8_acceptRanges), ("unicode/utf8.first", laid_unicode_utf8_first)] }
def FnCallSaid : Prop := fnCallRow.holds Tryz.pinned (OpenSpec.ofChange fnCallSpec)

/-- ITS FALSE NEIGHBOUR: 'it returns false'. Refute it at one input. -/
def fnCallWrong : ChangeSpec := { name := "fnCall", fn := fun _ => fun
  | [d] => { results := [.lit (.bool false)], args := [d] }
  | _ => none }
def FnCallWrongFalsely : Prop := fnCallRow.holds Tryz.pinned (OpenSpec.ofChange fnCallWrong)

/-- 'laws.FnCallCache': WHATEVER THE INPUT: true; the input reads as it did. -/
def fnCallCacheSpec : ChangeSpec := { name := "fnCallCache", fn := fun _ => fun
  | [d] => { results := [.lit (.bool true)], args := [d] }
  | _ => none }
def fnCallCacheRow : OpenClaim := { program := "ytecnmehlbfklnaagreatdoor", sum := "b8a87674453bead3c03296754d8cdde68d785913ae81eb06f8970ea3efb0a0a6", func := "loop.example/exopager/laws.FnCallCache", spec := "fnCallCache", inPlace := ["internal/bytealg.IndexByteString", "internal/bytealg.IndexString", "slices.overlaps[string]"], unfollowed := true, recurses := true, named := ["unicode/utf8.first", "unicode/utf8.acceptRanges", "internal/bytealg.MaxLen"], apart := false, laid := [("unicode/utf8.acceptRanges", laid_unicode_utf8_acceptRanges), ("unicode/utf8.first", laid_unicode_utf8_first)] }
def FnCallCacheSaid : Prop := fnCallCacheRow.holds Tryz.pinned (OpenSpec.ofChange fnCallCacheSpec)

/-- ITS FALSE NEIGHBOUR: 'it returns false'. Refute it at one input. -/
def fnCallCacheWrong : ChangeSpec := { name := "fnCallCache", fn := fun _ => fun
  | [d] => { results := [.lit (.bool false)], args := [d] }
  | _ => none }
def FnCallCacheWrongFalsely : Prop := fnCallCacheRow.holds Tryz.pinned (OpenSpec.ofChange fnCallCacheWrong)

/-- 'laws.FnCallInvalid': WHATEVER THE INPUT: true; the input reads as it did. -/
def fnCallInvalidSpec : ChangeSpec := { name := "fnCallInvalid", fn := fun _ => fun
  | [d] => { results := [.lit (.bool true)], args := [d] }
  | _ => none }
def fnCallInvalidRow : OpenClaim := { program := "ytecnmehlbfklnaagreatdoor", sum := "b8a87674453bead3c03296754d8cdde68d785913ae81eb06f8970ea3efb0a0a6", func := "loop.example/exopager/laws.FnCallInvalid", spec := "fnCallInvalid", inPlace := ["internal/bytealg.IndexByteString", "internal/bytealg.IndexString", "slices.overlaps[string]"], unfollowed := true, recurses := true, named := ["unicode/utf8.first", "unicode/utf8.acceptRanges", "internal/bytealg.MaxLen"], apart := false, laid := [("unicode/utf8.acceptRanges", laid_unicode_utf8_acceptRanges), ("unicode/utf8.first", laid_unicode_utf8_first)] }
def FnCallInvalidSaid : Prop := fnCallInvalidRow.holds Tryz.pinned (OpenSpec.ofChange fnCallInvalidSpec)

/-- ITS FALSE NEIGHBOUR: 'it returns false'. Refute it at one input. -/
def fnCallInvalidWrong : ChangeSpec := { name := "fnCallInvalid", fn := fun _ => fun
  | [d] => { results := [.lit (.bool false)], args := [d] }
  | _ => none }
def FnCallInvalidWrongFalsely : Prop := fnCallInvalidRow.holds Tryz.pinned (OpenSpec.ofChange fnCallInvalidWrong)

/-- 'laws.FnCallOthers': WHATEVER THE INPUT: true; the input reads as it did. -/
def fnCallOthersSpec : ChangeSpec := { name := "fnCallOthers", fn := fun _ => fun
  | [d] => { results := [.lit (.bool true)], args := [d] }
  | _ => none }
def fnCallOthersRow : OpenClaim := { program := "ytecnmehlbfklnaagreatdoor", sum := "b8a87674453bead3c03296754d8cdde68d785913ae81eb06f8970ea3efb0a0a6", func := "loop.example/exopager/laws.FnCallOthers", spec := "fnCallOthers", inPlace := ["internal/bytealg.IndexByteString", "internal/bytealg.IndexString", "slices.overlaps[string]"], unfollowed := true, recurses := true, named := ["unicode/utf8.first", "unicode/utf8.acceptRanges", "internal/bytealg.MaxLen"], apart := false, laid := [("unicode/utf8.acceptRanges", laid_unicode_utf8_acceptRanges), ("unicode/utf8.first", laid_unicode_utf8_first)] }
def FnCallOthersSaid : Prop := fnCallOthersRow.holds Tryz.pinned (OpenSpec.ofChange fnCallOthersSpec)

/-- ITS FALSE NEIGHBOUR: 'it returns false'. Refute it at one input. -/
def fnCallOthersWrong : ChangeSpec := { name := "fnCallOthers", fn := fun _ => fun
  | [d] => { results := [.lit (.bool false)], args := [d] }
  | _ => none }
def FnCallOthersWrongFalsely : Prop := fnCallOthersRow.holds Tryz.pinned (OpenSpec.ofChange fnCallOthersWrong)

/-- 'laws.FnCallPin': WHATEVER THE INPUT: true; the input reads as it did. -/
def fnCallPinSpec : ChangeSpec := { name := "fnCallPin", fn := fun _ => fun
  | [d] => { results := [.lit (.bool true)], args := [d] }
  | _ => none }
def fnCallPinRow : OpenClaim := { program := "ytecnmehlbfklnaagreatdoor", sum := "b8a87674453bead3c03296754d8cdde68d785913ae81eb06f8970ea3efb0a0a6", func := "loop.example/exopager/laws.FnCallPin", spec := "fnCallPin", inPlace := ["internal/bytealg.IndexByteString", "internal/bytealg.IndexString", "slices.overlaps[string]"], unfollowed := true, recurses := true, named := ["unicode/utf8.first", "unicode/utf8.acceptRanges", "internal/bytealg.MaxLen"], apart := false, laid := [("unicode/utf8.acceptRanges", laid_unicode_utf8_acceptRanges), ("unicode/utf8.first", laid_unicode_utf8_first)] }
def FnCallPinSaid : Prop := fnCallPinRow.holds Tryz.pinned (OpenSpec.ofChange fnCallPinSpec)

/-- ITS FALSE NEIGHBOUR: 'it returns false'. Refute it at one input. -/
def fnCallPinWrong : ChangeSpec := { name := "fnCallPin", fn := fun _ => fun
  | [d] => { results := [.lit (.bool false)], args := [d] }
  | _ => none }
def FnCallPinWrongFalsely : Prop := fnCallPinRow.holds Tryz.pinned (OpenSpec.ofChange fnCallPinWrong)

/-- 'laws.FnCallRefused': WHATEVER THE INPUT: true; the input reads as it did. -/
def fnCallRefusedSpec : ChangeSpec := { name := "fnCallRefused", fn := fun _ => fun
  | [d] => { results := [.lit (.bool true)], args := [d] }
  | _ => none }
def fnCallRefusedRow : OpenClaim := { program := "ytecnmehlbfklnaagreatdoor", sum := "b8a87674453bead3c03296754d8cdde68d785913ae81eb06f8970ea3efb0a0a6", func := "loop.example/exopager/laws.FnCallRefused", spec := "fnCallRefused", inPlace := ["internal/bytealg.IndexByteString", "internal/bytealg.IndexString", "slices.overlaps[string]"], unfollowed := true, recurses := true, named := ["unicode/utf8.first", "unicode/utf8.acceptRanges", "internal/bytealg.MaxLen"], apart := false, laid := [("unicode/utf8.acceptRanges", laid_unicode_utf8_acceptRanges), ("unicode/utf8.first", laid_unicode_utf8_first)] }
def FnCallRefusedSaid : Prop := fnCallRefusedRow.holds Tryz.pinned (OpenSpec.ofChange fnCallRefusedSpec)

/-- ITS FALSE NEIGHBOUR: 'it returns false'. Refute it at one input. -/
def fnCallRefusedWrong : ChangeSpec := { name := "fnCallRefused", fn := fun _ => fun
  | [d] => { results := [.lit (.bool false)], args := [d] }
  | _ => none }
def FnCallRefusedWrongFalsely : Prop := fnCallRefusedRow.holds Tryz.pinned (OpenSpec.ofChange fnCallRefusedWrong)

/-- 'laws.FnGive': WHATEVER THE INPUT: true; the input reads as it did. -/
def fnGiveSpec : ChangeSpec := { name := "fnGive", fn := fun _ => fun
  | [d] => { results := [.lit (.bool true)], args := [d] }
  | _ => none }
def fnGiveRow : OpenClaim := { program := "ytecnmehlbfklnaagreatdoor", sum := "b8a87674453bead3c03296754d8cdde68d785913ae81eb06f8970ea3efb0a0a6", func := "loop.example/exopager/laws.FnGive", spec := "fnGive", inPlace := ["internal/bytealg.IndexByteString", "internal/bytealg.IndexString", "slices.overlaps[string]"], unfollowed := true, recurses := true, named := ["unicode/utf8.first", "unicode/utf8.acceptRanges", "internal/bytealg.MaxLen"], apart := false, laid := [("unicode/utf8.acceptRanges", laid_unicode_utf8_acceptRanges), ("unicode/utf8.first", laid_unicode_utf8_first)] }
def FnGiveSaid : Prop := fnGiveRow.holds Tryz.pinned (OpenSpec.ofChange fnGiveSpec)

/-- ITS FALSE NEIGHBOUR: 'it returns false'. Refute it at one input. -/
def fnGiveWrong : ChangeSpec := { name := "fnGive", fn := fun _ => fun
  | [d] => { results := [.lit (.bool false)], args := [d] }
  | _ => none }
def FnGiveWrongFalsely : Prop := fnGiveRow.holds Tryz.pinned (OpenSpec.ofChange fnGiveWrong)

/-- 'laws.FnRoot': WHATEVER THE INPUT: true; the input reads as it did. -/
def fnRootSpec : ChangeSpec := { name := "fnRoot", fn := fun _ => fun
  | [d] => { results := [.lit (.bool true)], args := [d] }
  | _ => none }
def fnRootRow : OpenClaim := { program := "ytecnmehlbfklnaagreatdoor", sum := "b8a87674453bead3c03296754d8cdde68d785913ae81eb06f8970ea3efb0a0a6", func := "loop.example/exopager/laws.FnRoot", spec := "fnRoot", inPlace := ["internal/bytealg.IndexByteString", "internal/bytealg.IndexString", "slices.overlaps[string]"], unfollowed := true, recurses := true, named := ["unicode/utf8.first", "unicode/utf8.acceptRanges", "internal/bytealg.MaxLen"], apart := false, laid := [("unicode/utf8.acceptRanges", laid_unicode_utf8_acceptRanges), ("unicode/utf8.first", laid_unicode_utf8_first)] }
def FnRootSaid : Prop := fnRootRow.holds Tryz.pinned (OpenSpec.ofChange fnRootSpec)

/-- ITS FALSE NEIGHBOUR: 'it returns false'. Refute it at one input. -/
def fnRootWrong : ChangeSpec := { name := "fnRoot", fn := fun _ => fun
  | [d] => { results := [.lit (.bool false)], args := [d] }
  | _ => none }
def FnRootWrongFalsely : Prop := fnRootRow.holds Tryz.pinned (OpenSpec.ofChange fnRootWrong)

/-- 'laws.FnCallAlien': WHATEVER THE INPUT: true; the input reads as it did. -/
def fnCallAlienSpec : ChangeSpec := { name := "fnCallAlien", fn := fun _ => fun
  | [d] => { results := [.lit (.bool true)], args := [d] }
  | _ => none }
def fnCallAlienRow : OpenClaim := { program := "ytecnmehlbfklnaagreatdoor", sum := "b8a87674453bead3c03296754d8cdde68d785913ae81eb06f8970ea3efb0a0a6", func := "loop.example/exopager/laws.FnCallAlien", spec := "fnCallAlien", inPlace := ["internal/bytealg.IndexByteString", "internal/bytealg.IndexString", "slices.overlaps[string]"], unfollowed := true, recurses := true, named := ["unicode/utf8.first", "unicode/utf8.acceptRanges", "internal/bytealg.MaxLen"], apart := false, laid := [("unicode/utf8.acceptRanges", laid_unicode_utf8_acceptRanges), ("unicode/utf8.first", laid_unicode_utf8_first)] }
def FnCallAlienSaid : Prop := fnCallAlienRow.holds Tryz.pinned (OpenSpec.ofChange fnCallAlienSpec)

/-- ITS FALSE NEIGHBOUR: 'it returns false'. Refute it at one input. -/
def fnCallAlienWrong : ChangeSpec := { name := "fnCallAlien", fn := fun _ => fun
  | [d] => { results := [.lit (.bool false)], args := [d] }
  | _ => none }
def FnCallAlienWrongFalsely : Prop := fnCallAlienRow.holds Tryz.pinned (OpenSpec.ofChange fnCallAlienWrong)

/-- 'laws.FnGrant': WHATEVER THE INPUT: true; the input reads as it did. -/
def fnGrantSpec : ChangeSpec := { name := "fnGrant", fn := fun _ => fun
  | [d] => { results := [.lit (.bool true)], args := [d] }
  | _ => none }
def fnGrantRow : OpenClaim := { program := "ytecnmehlbfklnaagreatdoor", sum := "b8a87674453bead3c03296754d8cdde68d785913ae81eb06f8970ea3efb0a0a6", func := "loop.example/exopager/laws.FnGrant", spec := "fnGrant", inPlace := ["internal/bytealg.IndexByteString", "internal/bytealg.IndexString", "slices.overlaps[string]"], unfollowed := true, recurses := true, named := ["unicode/utf8.first", "unicode/utf8.acceptRanges", "internal/bytealg.MaxLen"], apart := false, laid := [("unicode/utf8.acceptRanges", laid_unicode_utf8_acceptRanges), ("unicode/utf8.first", laid_unicode_utf8_first)] }
def FnGrantSaid : Prop := fnGrantRow.holds Tryz.pinned (OpenSpec.ofChange fnGrantSpec)

/-- ITS FALSE NEIGHBOUR: 'it returns false'. Refute it at one input. -/
def fnGrantWrong : ChangeSpec := { name := "fnGrant", fn := fun _ => fun
  | [d] => { results := [.lit (.bool false)], args := [d] }
  | _ => none }
def FnGrantWrongFalsely : Prop := fnGrantRow.holds Tryz.pinned (OpenSpec.ofChange fnGrantWrong)

/- THE SECOND FORM. 'bulk': how many values and letters a reading holds, each counted each time it is reached (what is shared counts as often as it is met; a slice's spare places count too). A statement '..UptoSaid' is the law's where the arguments, and the package variables that the reading takes, are together of bulk at most 1048576: NARROWER than '..Said'. Prove '..Said' where nothing that the law and all that it calls make is longer than what came in: it says more and counts as full. Else prove '..UptoSaid'. A law counts once. -/
mutual
def uptoBulk {H : Type} : DataW H → Nat
  | .lit (.string bytes) => bytes.length + 1
  | .lit _ => 1
  | .nil => 1
  | .ptr d => uptoBulk d + 1
  | .slice elems spare => uptoBulkAll elems + uptoBulkAll spare + 1
  | .agg parts => uptoBulkAll parts + 1
  | .iface _ d => uptoBulk d + 1
  | .map entries => uptoBulkEntries entries + 1
  | .held _ => 1
def uptoBulkAll {H : Type} : List (DataW H) → Nat
  | [] => 0
  | d :: r => uptoBulk d + uptoBulkAll r
def uptoBulkEntries {H : Type} : List (Lit × DataW H) → Nat
  | [] => 0
  | x :: r => uptoBulkEntry x + uptoBulkEntries r
def uptoBulkEntry {H : Type} : Lit × DataW H → Nat
  | (.string bytes, d) => bytes.length + uptoBulk d + 1
  | (_, d) => uptoBulk d + 1
 end
def uptoSmall : (H : Type) → List (DataW H) → Bool := fun _ ds => decide (uptoBulkAll ds ≤ 1048576)
def OpenSpec.upto (s : _root_.Go.ChangeSpec) : _root_.Go.OpenSpec := { _root_.Go.OpenSpec.ofChange s with cond := some uptoSmall }

/-- 'laws.FnCall', WHERE WHAT IT READS IS OF BULK AT MOST 1048576: true; the input reads as it did. -/
def fnCallUptoRow : OpenClaim := { program := "ytecnmehlbfklnaagreatdoor", sum := "b8a87674453bead3c03296754d8cdde68d785913ae81eb06f8970ea3efb0a0a6", func := "loop.example/exopager/laws.FnCall", spec := "fnCall", inPlace := ["internal/bytealg.IndexByteString", "internal/bytealg.IndexString", "slices.overlaps[string]"], unfollowed := true, recurses := true, named := ["unicode/utf8.first", "unicode/utf8.acceptRanges", "internal/bytealg.MaxLen"], apart := false, laid := [("unicode/utf8.acceptRanges", laid_unicode_utf8_acceptRanges), ("unicode/utf8.first", laid_unicode_utf8_first)], narrowed := true }
def FnCallUptoSaid : Prop := fnCallUptoRow.holds Tryz.pinned (OpenSpec.upto fnCallSpec)

/-- 'laws.FnCallCache', WHERE WHAT IT READS IS OF BULK AT MOST 1048576: true; the input reads as it did. -/
def fnCallCacheUptoRow : OpenClaim := { program := "ytecnmehlbfklnaagreatdoor", sum := "b8a87674453bead3c03296754d8cdde68d785913ae81eb06f8970ea3efb0a0a6", func := "loop.example/exopager/laws.FnCallCache", spec := "fnCallCache", inPlace := ["internal/bytealg.IndexByteString", "internal/bytealg.IndexString", "slices.overlaps[string]"], unfollowed := true, recurses := true, named := ["unicode/utf8.first", "unicode/utf8.acceptRanges", "internal/bytealg.MaxLen"], apart := false, laid := [("unicode/utf8.acceptRanges", laid_unicode_utf8_acceptRanges), ("unicode/utf8.first", laid_unicode_utf8_first)], narrowed := true }
def FnCallCacheUptoSaid : Prop := fnCallCacheUptoRow.holds Tryz.pinned (OpenSpec.upto fnCallCacheSpec)

/-- 'laws.FnCallInvalid', WHERE WHAT IT READS IS OF BULK AT MOST 1048576: true; the input reads as it did. -/
def fnCallInvalidUptoRow : OpenClaim := { program := "ytecnmehlbfklnaagreatdoor", sum := "b8a87674453bead3c03296754d8cdde68d785913ae81eb06f8970ea3efb0a0a6", func := "loop.example/exopager/laws.FnCallInvalid", spec := "fnCallInvalid", inPlace := ["internal/bytealg.IndexByteString", "internal/bytealg.IndexString", "slices.overlaps[string]"], unfollowed := true, recurses := true, named := ["unicode/utf8.first", "unicode/utf8.acceptRanges", "internal/bytealg.MaxLen"], apart := false, laid := [("unicode/utf8.acceptRanges", laid_unicode_utf8_acceptRanges), ("unicode/utf8.first", laid_unicode_utf8_first)], narrowed := true }
def FnCallInvalidUptoSaid : Prop := fnCallInvalidUptoRow.holds Tryz.pinned (OpenSpec.upto fnCallInvalidSpec)

/-- 'laws.FnCallOthers', WHERE WHAT IT READS IS OF BULK AT MOST 1048576: true; the input reads as it did. -/
def fnCallOthersUptoRow : OpenClaim := { program := "ytecnmehlbfklnaagreatdoor", sum := "b8a87674453bead3c03296754d8cdde68d785913ae81eb06f8970ea3efb0a0a6", func := "loop.example/exopager/laws.FnCallOthers", spec := "fnCallOthers", inPlace := ["internal/bytealg.IndexByteString", "internal/bytealg.IndexString", "slices.overlaps[string]"], unfollowed := true, recurses := true, named := ["unicode/utf8.first", "unicode/utf8.acceptRanges", "internal/bytealg.MaxLen"], apart := false, laid := [("unicode/utf8.acceptRanges", laid_unicode_utf8_acceptRanges), ("unicode/utf8.first", laid_unicode_utf8_first)], narrowed := true }
def FnCallOthersUptoSaid : Prop := fnCallOthersUptoRow.holds Tryz.pinned (OpenSpec.upto fnCallOthersSpec)

/-- 'laws.FnCallPin', WHERE WHAT IT READS IS OF BULK AT MOST 1048576: true; the input reads as it did. -/
def fnCallPinUptoRow : OpenClaim := { program := "ytecnmehlbfklnaagreatdoor", sum := "b8a87674453bead3c03296754d8cdde68d785913ae81eb06f8970ea3efb0a0a6", func := "loop.example/exopager/laws.FnCallPin", spec := "fnCallPin", inPlace := ["internal/bytealg.IndexByteString", "internal/bytealg.IndexString", "slices.overlaps[string]"], unfollowed := true, recurses := true, named := ["unicode/utf8.first", "unicode/utf8.acceptRanges", "internal/bytealg.MaxLen"], apart := false, laid := [("unicode/utf8.acceptRanges", laid_unicode_utf8_acceptRanges), ("unicode/utf8.first", laid_unicode_utf8_first)], narrowed := true }
def FnCallPinUptoSaid : Prop := fnCallPinUptoRow.holds Tryz.pinned (OpenSpec.upto fnCallPinSpec)

/-- 'laws.FnCallRefused', WHERE WHAT IT READS IS OF BULK AT MOST 1048576: true; the input reads as it did. -/
def fnCallRefusedUptoRow : OpenClaim := { program := "ytecnmehlbfklnaagreatdoor", sum := "b8a87674453bead3c03296754d8cdde68d785913ae81eb06f8970ea3efb0a0a6", func := "loop.example/exopager/laws.FnCallRefused", spec := "fnCallRefused", inPlace := ["internal/bytealg.IndexByteString", "internal/bytealg.IndexString", "slices.overlaps[string]"], unfollowed := true, recurses := true, named := ["unicode/utf8.first", "unicode/utf8.acceptRanges", "internal/bytealg.MaxLen"], apart := false, laid := [("unicode/utf8.acceptRanges", laid_unicode_utf8_acceptRanges), ("unicode/utf8.first", laid_unicode_utf8_first)], narrowed := true }
def FnCallRefusedUptoSaid : Prop := fnCallRefusedUptoRow.holds Tryz.pinned (OpenSpec.upto fnCallRefusedSpec)

/-- 'laws.FnGive', WHERE WHAT IT READS IS OF BULK AT MOST 1048576: true; the input reads as it did. -/
def fnGiveUptoRow : OpenClaim := { program := "ytecnmehlbfklnaagreatdoor", sum := "b8a87674453bead3c03296754d8cdde68d785913ae81eb06f8970ea3efb0a0a6", func := "loop.example/exopager/laws.FnGive", spec := "fnGive", inPlace := ["internal/bytealg.IndexByteString", "internal/bytealg.IndexString", "slices.overlaps[string]"], unfollowed := true, recurses := true, named := ["unicode/utf8.first", "unicode/utf8.acceptRanges", "internal/bytealg.MaxLen"], apart := false, laid := [("unicode/utf8.acceptRanges", laid_unicode_utf8_acceptRanges), ("unicode/utf8.first", laid_unicode_utf8_first)], narrowed := true }
def FnGiveUptoSaid : Prop := fnGiveUptoRow.holds Tryz.pinned (OpenSpec.upto fnGiveSpec)

/-- 'laws.FnRoot', WHERE WHAT IT READS IS OF BULK AT MOST 1048576: true; the input reads as it did. -/
def fnRootUptoRow : OpenClaim := { program := "ytecnmehlbfklnaagreatdoor", sum := "b8a87674453bead3c03296754d8cdde68d785913ae81eb06f8970ea3efb0a0a6", func := "loop.example/exopager/laws.FnRoot", spec := "fnRoot", inPlace := ["internal/bytealg.IndexByteString", "internal/bytealg.IndexString", "slices.overlaps[string]"], unfollowed := true, recurses := true, named := ["unicode/utf8.first", "unicode/utf8.acceptRanges", "internal/bytealg.MaxLen"], apart := false, laid := [("unicode/utf8.acceptRanges", laid_unicode_utf8_acceptRanges), ("unicode/utf8.first", laid_unicode_utf8_first)], narrowed := true }
def FnRootUptoSaid : Prop := fnRootUptoRow.holds Tryz.pinned (OpenSpec.upto fnRootSpec)

/-- 'laws.FnCallAlien', WHERE WHAT IT READS IS OF BULK AT MOST 1048576: true; the input reads as it did. -/
def fnCallAlienUptoRow : OpenClaim := { program := "ytecnmehlbfklnaagreatdoor", sum := "b8a87674453bead3c03296754d8cdde68d785913ae81eb06f8970ea3efb0a0a6", func := "loop.example/exopager/laws.FnCallAlien", spec := "fnCallAlien", inPlace := ["internal/bytealg.IndexByteString", "internal/bytealg.IndexString", "slices.overlaps[string]"], unfollowed := true, recurses := true, named := ["unicode/utf8.first", "unicode/utf8.acceptRanges", "internal/bytealg.MaxLen"], apart := false, laid := [("unicode/utf8.acceptRanges", laid_unicode_utf8_acceptRanges), ("unicode/utf8.first", laid_unicode_utf8_first)], narrowed := true }
def FnCallAlienUptoSaid : Prop := fnCallAlienUptoRow.holds Tryz.pinned (OpenSpec.upto fnCallAlienSpec)

/-- 'laws.FnGrant', WHERE WHAT IT READS IS OF BULK AT MOST 1048576: true; the input reads as it did. -/
def fnGrantUptoRow : OpenClaim := { program := "ytecnmehlbfklnaagreatdoor", sum := "b8a87674453bead3c03296754d8cdde68d785913ae81eb06f8970ea3efb0a0a6", func := "loop.example/exopager/laws.FnGrant", spec := "fnGrant", inPlace := ["internal/bytealg.IndexByteString", "internal/bytealg.IndexString", "slices.overlaps[string]"], unfollowed := true, recurses := true, named := ["unicode/utf8.first", "unicode/utf8.acceptRanges", "internal/bytealg.MaxLen"], apart := false, laid := [("unicode/utf8.acceptRanges", laid_unicode_utf8_acceptRanges), ("unicode/utf8.first", laid_unicode_utf8_first)], narrowed := true }
def FnGrantUptoSaid : Prop := fnGrantUptoRow.holds Tryz.pinned (OpenSpec.upto fnGrantSpec)

end Rows
end Go.Proofs.YtecnmehlbfklnaaGreatDoor
