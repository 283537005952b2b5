/-
  NARROWER THAN 'FOR EVERY INPUT', by the rows' own cells (each row's printed sentence says how): FnCallAlien: laid · FnTake: laid · FnTakeRefused: laid · FnPoke: laid · FnGrantRevoke: laid · FnRevoke: laid · FnLoad: laid · FnLoadCache: laid · FnSet: laid · FnSetRights: laid · FnStore: laid · FnStoreRefused: laid.
  DERIVED. THE GIVEN ROWS OF THIS SEAT. 12 by the template 'for every input the law returns true; each argument reads behind the call as it read before'; 0 by the template 'total and deterministic' (their statements: YtmmjmckajcfffaaGreatDoorTotals.lean).
  GIVEN WITH THE SEED: the statements are not yours to turn. If you find one false, say at which input.
  Laid BY PROGRAM, IN A SANDBOX (cutbox-rows.mjs): the forced cells as the released guide's own fill.sh prints them over the translation f6858a323c1b9f3c… (all of the seat's roots in one cut). By AI agents, Wed Nov 11 2026. No macro, syntax, notation, axiom, sorry.
-/
import Derived.Test.YtmmjmckajcfffaaGreatDoorChecked
import GoSem.PinnedTables
import GoSem.Claim
import GoSem.ClaimJoined
import GoSem.ClaimMapViews
import Derived.JoinedTies
import Derived.KernelRfl
namespace Go.Proofs.YtmmjmckajcfffaaGreatDoor
/- THE CELL 'sum', in the pinned program and in every row, IS THE sha256 OF THE DUMP (.gsa) THAT YtmmjmckajcfffaaGreatDoorProg.lean LOADS. Nothing in Lean hashes anything: it is a label: what it is worth is what the hold of that sum in a sandbox is worth. -/
noncomputable def Tryz.pinned : Pinned := { name := "ytmmjmckajcfffaagreatdoor", sum := "f6858a323c1b9f3cbe9bc148b7b82d2f0496adcc74dfbb51a805a6f67da6d27a", checked := Tryz.checked }
namespace Rows
def none {H : Type} : Left H := { results := [], args := [] }

/- WHAT THE LISTED PACKAGE-LEVEL VARIABLES READ AS WHEN THE CALL BEGINS. Each datum BY PROGRAM (the guide's laid-datum.mjs) off the statement by which the dump's own 'gosem.cut.vars' lays the variable. In a bare row this is a premise. The card (YtmmjmckajcfffaaGreatDoorCards.lean) ties it to the program's text. -/
def laid_unicode_utf8_acceptRanges {H : Type} : DataW H := .agg [.agg [.lit (.int .u8 128), .lit (.int .u8 191)], .agg [.lit (.int .u8 160), .lit (.int .u8 191)], .agg [.lit (.int .u8 128), .lit (.int .u8 159)], .agg [.lit (.int .u8 144), .lit (.int .u8 191)], .agg [.lit (.int .u8 128), .lit (.int .u8 143)], .agg [.lit (.int .u8 0), .lit (.int .u8 0)], .agg [.lit (.int .u8 0), .lit (.int .u8 0)], .agg [.lit (.int .u8 0), .lit (.int .u8 0)], .agg [.lit (.int .u8 0), .lit (.int .u8 0)], .agg [.lit (.int .u8 0), .lit (.int .u8 0)], .agg [.lit (.int .u8 0), .lit (.int .u8 0)], .agg [.lit (.int .u8 0), .lit (.int .u8 0)], .agg [.lit (.int .u8 0), .lit (.int .u8 0)], .agg [.lit (.int .u8 0), .lit (.int .u8 0)], .agg [.lit (.int .u8 0), .lit (.int .u8 0)], .agg [.lit (.int .u8 0), .lit (.int .u8 0)]]
/-- One of Go's own tables, pinned by name: the form's constant. -/
def laid_unicode_utf8_first : DataW Unit := Go.Pinned.utf8First

/-- 'laws.FnCallAlien': WHATEVER THE INPUT: true; the input reads as it did. -/
def fnCallAlienSpec : ChangeSpec := { name := "fnCallAlien", fn := fun _ => fun
  | [d] => { results := [.lit (.bool true)], args := [d] }
  | _ => none }
def fnCallAlienRow : OpenClaim := { program := "ytmmjmckajcfffaagreatdoor", sum := "f6858a323c1b9f3cbe9bc148b7b82d2f0496adcc74dfbb51a805a6f67da6d27a", func := "loop.example/exopager/laws.FnCallAlien", spec := "fnCallAlien", inPlace := ["internal/bytealg.IndexByteString", "internal/bytealg.IndexString", "slices.overlaps[string]"], unfollowed := true, recurses := true, named := ["unicode/utf8.first", "unicode/utf8.acceptRanges", "internal/bytealg.MaxLen"], apart := false, laid := [("unicode/utf8.acceptRanges", laid_unicode_utf8_acceptRanges), ("unicode/utf8.first", laid_unicode_utf8_first)] }
def FnCallAlienSaid : Prop := fnCallAlienRow.holds Tryz.pinned (OpenSpec.ofChange fnCallAlienSpec)

/-- ITS FALSE NEIGHBOUR: 'it returns false'. Refute it at one input. -/
def fnCallAlienWrong : ChangeSpec := { name := "fnCallAlien", fn := fun _ => fun
  | [d] => { results := [.lit (.bool false)], args := [d] }
  | _ => none }
def FnCallAlienWrongFalsely : Prop := fnCallAlienRow.holds Tryz.pinned (OpenSpec.ofChange fnCallAlienWrong)

/-- 'laws.FnTake': WHATEVER THE INPUT: true; the input reads as it did. -/
def fnTakeSpec : ChangeSpec := { name := "fnTake", fn := fun _ => fun
  | [d] => { results := [.lit (.bool true)], args := [d] }
  | _ => none }
def fnTakeRow : OpenClaim := { program := "ytmmjmckajcfffaagreatdoor", sum := "f6858a323c1b9f3cbe9bc148b7b82d2f0496adcc74dfbb51a805a6f67da6d27a", func := "loop.example/exopager/laws.FnTake", spec := "fnTake", inPlace := ["internal/bytealg.IndexByteString", "internal/bytealg.IndexString", "slices.overlaps[string]"], unfollowed := true, recurses := true, named := ["unicode/utf8.first", "unicode/utf8.acceptRanges", "internal/bytealg.MaxLen"], apart := false, laid := [("unicode/utf8.acceptRanges", laid_unicode_utf8_acceptRanges), ("unicode/utf8.first", laid_unicode_utf8_first)] }
def FnTakeSaid : Prop := fnTakeRow.holds Tryz.pinned (OpenSpec.ofChange fnTakeSpec)

/-- ITS FALSE NEIGHBOUR: 'it returns false'. Refute it at one input. -/
def fnTakeWrong : ChangeSpec := { name := "fnTake", fn := fun _ => fun
  | [d] => { results := [.lit (.bool false)], args := [d] }
  | _ => none }
def FnTakeWrongFalsely : Prop := fnTakeRow.holds Tryz.pinned (OpenSpec.ofChange fnTakeWrong)

/-- 'laws.FnTakeRefused': WHATEVER THE INPUT: true; the input reads as it did. -/
def fnTakeRefusedSpec : ChangeSpec := { name := "fnTakeRefused", fn := fun _ => fun
  | [d] => { results := [.lit (.bool true)], args := [d] }
  | _ => none }
def fnTakeRefusedRow : OpenClaim := { program := "ytmmjmckajcfffaagreatdoor", sum := "f6858a323c1b9f3cbe9bc148b7b82d2f0496adcc74dfbb51a805a6f67da6d27a", func := "loop.example/exopager/laws.FnTakeRefused", spec := "fnTakeRefused", inPlace := ["internal/bytealg.IndexByteString", "internal/bytealg.IndexString", "slices.overlaps[string]"], unfollowed := true, recurses := true, named := ["unicode/utf8.first", "unicode/utf8.acceptRanges", "internal/bytealg.MaxLen"], apart := false, laid := [("unicode/utf8.acceptRanges", laid_unicode_utf8_acceptRanges), ("unicode/utf8.first", laid_unicode_utf8_first)] }
def FnTakeRefusedSaid : Prop := fnTakeRefusedRow.holds Tryz.pinned (OpenSpec.ofChange fnTakeRefusedSpec)

/-- ITS FALSE NEIGHBOUR: 'it returns false'. Refute it at one input. -/
def fnTakeRefusedWrong : ChangeSpec := { name := "fnTakeRefused", fn := fun _ => fun
  | [d] => { results := [.lit (.bool false)], args := [d] }
  | _ => none }
def FnTakeRefusedWrongFalsely : Prop := fnTakeRefusedRow.holds Tryz.pinned (OpenSpec.ofChange fnTakeRefusedWrong)

/-- 'laws.FnPoke': WHATEVER THE INPUT: true; the input reads as it did. -/
def fnPokeSpec : ChangeSpec := { name := "fnPoke", fn := fun _ => fun
  | [d] => { results := [.lit (.bool true)], args := [d] }
  | _ => none }
def fnPokeRow : OpenClaim := { program := "ytmmjmckajcfffaagreatdoor", sum := "f6858a323c1b9f3cbe9bc148b7b82d2f0496adcc74dfbb51a805a6f67da6d27a", func := "loop.example/exopager/laws.FnPoke", spec := "fnPoke", inPlace := ["internal/bytealg.IndexByteString", "internal/bytealg.IndexString", "slices.overlaps[string]"], unfollowed := true, recurses := true, named := ["unicode/utf8.first", "unicode/utf8.acceptRanges", "internal/bytealg.MaxLen"], apart := false, laid := [("unicode/utf8.acceptRanges", laid_unicode_utf8_acceptRanges), ("unicode/utf8.first", laid_unicode_utf8_first)] }
def FnPokeSaid : Prop := fnPokeRow.holds Tryz.pinned (OpenSpec.ofChange fnPokeSpec)

/-- ITS FALSE NEIGHBOUR: 'it returns false'. Refute it at one input. -/
def fnPokeWrong : ChangeSpec := { name := "fnPoke", fn := fun _ => fun
  | [d] => { results := [.lit (.bool false)], args := [d] }
  | _ => none }
def FnPokeWrongFalsely : Prop := fnPokeRow.holds Tryz.pinned (OpenSpec.ofChange fnPokeWrong)

/-- 'laws.FnGrantRevoke': WHATEVER THE INPUT: true; the input reads as it did. -/
def fnGrantRevokeSpec : ChangeSpec := { name := "fnGrantRevoke", fn := fun _ => fun
  | [d] => { results := [.lit (.bool true)], args := [d] }
  | _ => none }
def fnGrantRevokeRow : OpenClaim := { program := "ytmmjmckajcfffaagreatdoor", sum := "f6858a323c1b9f3cbe9bc148b7b82d2f0496adcc74dfbb51a805a6f67da6d27a", func := "loop.example/exopager/laws.FnGrantRevoke", spec := "fnGrantRevoke", inPlace := ["internal/bytealg.IndexByteString", "internal/bytealg.IndexString", "slices.overlaps[string]"], unfollowed := true, recurses := true, named := ["unicode/utf8.first", "unicode/utf8.acceptRanges", "internal/bytealg.MaxLen"], apart := false, laid := [("unicode/utf8.acceptRanges", laid_unicode_utf8_acceptRanges), ("unicode/utf8.first", laid_unicode_utf8_first)] }
def FnGrantRevokeSaid : Prop := fnGrantRevokeRow.holds Tryz.pinned (OpenSpec.ofChange fnGrantRevokeSpec)

/-- ITS FALSE NEIGHBOUR: 'it returns false'. Refute it at one input. -/
def fnGrantRevokeWrong : ChangeSpec := { name := "fnGrantRevoke", fn := fun _ => fun
  | [d] => { results := [.lit (.bool false)], args := [d] }
  | _ => none }
def FnGrantRevokeWrongFalsely : Prop := fnGrantRevokeRow.holds Tryz.pinned (OpenSpec.ofChange fnGrantRevokeWrong)

/-- 'laws.FnRevoke': WHATEVER THE INPUT: true; the input reads as it did. -/
def fnRevokeSpec : ChangeSpec := { name := "fnRevoke", fn := fun _ => fun
  | [d] => { results := [.lit (.bool true)], args := [d] }
  | _ => none }
def fnRevokeRow : OpenClaim := { program := "ytmmjmckajcfffaagreatdoor", sum := "f6858a323c1b9f3cbe9bc148b7b82d2f0496adcc74dfbb51a805a6f67da6d27a", func := "loop.example/exopager/laws.FnRevoke", spec := "fnRevoke", inPlace := ["internal/bytealg.IndexByteString", "internal/bytealg.IndexString", "slices.overlaps[string]"], unfollowed := true, recurses := true, named := ["unicode/utf8.first", "unicode/utf8.acceptRanges", "internal/bytealg.MaxLen"], apart := false, laid := [("unicode/utf8.acceptRanges", laid_unicode_utf8_acceptRanges), ("unicode/utf8.first", laid_unicode_utf8_first)] }
def FnRevokeSaid : Prop := fnRevokeRow.holds Tryz.pinned (OpenSpec.ofChange fnRevokeSpec)

/-- ITS FALSE NEIGHBOUR: 'it returns false'. Refute it at one input. -/
def fnRevokeWrong : ChangeSpec := { name := "fnRevoke", fn := fun _ => fun
  | [d] => { results := [.lit (.bool false)], args := [d] }
  | _ => none }
def FnRevokeWrongFalsely : Prop := fnRevokeRow.holds Tryz.pinned (OpenSpec.ofChange fnRevokeWrong)

/-- 'laws.FnLoad': WHATEVER THE INPUT: true; the input reads as it did. -/
def fnLoadSpec : ChangeSpec := { name := "fnLoad", fn := fun _ => fun
  | [d] => { results := [.lit (.bool true)], args := [d] }
  | _ => none }
def fnLoadRow : OpenClaim := { program := "ytmmjmckajcfffaagreatdoor", sum := "f6858a323c1b9f3cbe9bc148b7b82d2f0496adcc74dfbb51a805a6f67da6d27a", func := "loop.example/exopager/laws.FnLoad", spec := "fnLoad", inPlace := ["internal/bytealg.IndexByteString", "internal/bytealg.IndexString", "slices.overlaps[string]"], unfollowed := true, recurses := true, named := ["unicode/utf8.first", "unicode/utf8.acceptRanges", "internal/bytealg.MaxLen"], apart := false, laid := [("unicode/utf8.acceptRanges", laid_unicode_utf8_acceptRanges), ("unicode/utf8.first", laid_unicode_utf8_first)] }
def FnLoadSaid : Prop := fnLoadRow.holds Tryz.pinned (OpenSpec.ofChange fnLoadSpec)

/-- ITS FALSE NEIGHBOUR: 'it returns false'. Refute it at one input. -/
def fnLoadWrong : ChangeSpec := { name := "fnLoad", fn := fun _ => fun
  | [d] => { results := [.lit (.bool false)], args := [d] }
  | _ => none }
def FnLoadWrongFalsely : Prop := fnLoadRow.holds Tryz.pinned (OpenSpec.ofChange fnLoadWrong)

/-- 'laws.FnLoadCache': WHATEVER THE INPUT: true; the input reads as it did. -/
def fnLoadCacheSpec : ChangeSpec := { name := "fnLoadCache", fn := fun _ => fun
  | [d] => { results := [.lit (.bool true)], args := [d] }
  | _ => none }
def fnLoadCacheRow : OpenClaim := { program := "ytmmjmckajcfffaagreatdoor", sum := "f6858a323c1b9f3cbe9bc148b7b82d2f0496adcc74dfbb51a805a6f67da6d27a", func := "loop.example/exopager/laws.FnLoadCache", spec := "fnLoadCache", inPlace := ["internal/bytealg.IndexByteString", "internal/bytealg.IndexString", "slices.overlaps[string]"], unfollowed := true, recurses := true, named := ["unicode/utf8.first", "unicode/utf8.acceptRanges", "internal/bytealg.MaxLen"], apart := false, laid := [("unicode/utf8.acceptRanges", laid_unicode_utf8_acceptRanges), ("unicode/utf8.first", laid_unicode_utf8_first)] }
def FnLoadCacheSaid : Prop := fnLoadCacheRow.holds Tryz.pinned (OpenSpec.ofChange fnLoadCacheSpec)

/-- ITS FALSE NEIGHBOUR: 'it returns false'. Refute it at one input. -/
def fnLoadCacheWrong : ChangeSpec := { name := "fnLoadCache", fn := fun _ => fun
  | [d] => { results := [.lit (.bool false)], args := [d] }
  | _ => none }
def FnLoadCacheWrongFalsely : Prop := fnLoadCacheRow.holds Tryz.pinned (OpenSpec.ofChange fnLoadCacheWrong)

/-- 'laws.FnSet': WHATEVER THE INPUT: true; the input reads as it did. -/
def fnSetSpec : ChangeSpec := { name := "fnSet", fn := fun _ => fun
  | [d] => { results := [.lit (.bool true)], args := [d] }
  | _ => none }
def fnSetRow : OpenClaim := { program := "ytmmjmckajcfffaagreatdoor", sum := "f6858a323c1b9f3cbe9bc148b7b82d2f0496adcc74dfbb51a805a6f67da6d27a", func := "loop.example/exopager/laws.FnSet", spec := "fnSet", inPlace := ["internal/bytealg.IndexByteString", "internal/bytealg.IndexString", "slices.overlaps[string]"], unfollowed := true, recurses := true, named := ["unicode/utf8.first", "unicode/utf8.acceptRanges", "internal/bytealg.MaxLen"], apart := false, laid := [("unicode/utf8.acceptRanges", laid_unicode_utf8_acceptRanges), ("unicode/utf8.first", laid_unicode_utf8_first)] }
def FnSetSaid : Prop := fnSetRow.holds Tryz.pinned (OpenSpec.ofChange fnSetSpec)

/-- ITS FALSE NEIGHBOUR: 'it returns false'. Refute it at one input. -/
def fnSetWrong : ChangeSpec := { name := "fnSet", fn := fun _ => fun
  | [d] => { results := [.lit (.bool false)], args := [d] }
  | _ => none }
def FnSetWrongFalsely : Prop := fnSetRow.holds Tryz.pinned (OpenSpec.ofChange fnSetWrong)

/-- 'laws.FnSetRights': WHATEVER THE INPUT: true; the input reads as it did. -/
def fnSetRightsSpec : ChangeSpec := { name := "fnSetRights", fn := fun _ => fun
  | [d] => { results := [.lit (.bool true)], args := [d] }
  | _ => none }
def fnSetRightsRow : OpenClaim := { program := "ytmmjmckajcfffaagreatdoor", sum := "f6858a323c1b9f3cbe9bc148b7b82d2f0496adcc74dfbb51a805a6f67da6d27a", func := "loop.example/exopager/laws.FnSetRights", spec := "fnSetRights", inPlace := ["internal/bytealg.IndexByteString", "internal/bytealg.IndexString", "slices.overlaps[string]"], unfollowed := true, recurses := true, named := ["unicode/utf8.first", "unicode/utf8.acceptRanges", "internal/bytealg.MaxLen"], apart := false, laid := [("unicode/utf8.acceptRanges", laid_unicode_utf8_acceptRanges), ("unicode/utf8.first", laid_unicode_utf8_first)] }
def FnSetRightsSaid : Prop := fnSetRightsRow.holds Tryz.pinned (OpenSpec.ofChange fnSetRightsSpec)

/-- ITS FALSE NEIGHBOUR: 'it returns false'. Refute it at one input. -/
def fnSetRightsWrong : ChangeSpec := { name := "fnSetRights", fn := fun _ => fun
  | [d] => { results := [.lit (.bool false)], args := [d] }
  | _ => none }
def FnSetRightsWrongFalsely : Prop := fnSetRightsRow.holds Tryz.pinned (OpenSpec.ofChange fnSetRightsWrong)

/-- 'laws.FnStore': WHATEVER THE INPUT: true; the input reads as it did. -/
def fnStoreSpec : ChangeSpec := { name := "fnStore", fn := fun _ => fun
  | [d] => { results := [.lit (.bool true)], args := [d] }
  | _ => none }
def fnStoreRow : OpenClaim := { program := "ytmmjmckajcfffaagreatdoor", sum := "f6858a323c1b9f3cbe9bc148b7b82d2f0496adcc74dfbb51a805a6f67da6d27a", func := "loop.example/exopager/laws.FnStore", spec := "fnStore", inPlace := ["internal/bytealg.IndexByteString", "internal/bytealg.IndexString", "slices.overlaps[string]"], unfollowed := true, recurses := true, named := ["unicode/utf8.first", "unicode/utf8.acceptRanges", "internal/bytealg.MaxLen"], apart := false, laid := [("unicode/utf8.acceptRanges", laid_unicode_utf8_acceptRanges), ("unicode/utf8.first", laid_unicode_utf8_first)] }
def FnStoreSaid : Prop := fnStoreRow.holds Tryz.pinned (OpenSpec.ofChange fnStoreSpec)

/-- ITS FALSE NEIGHBOUR: 'it returns false'. Refute it at one input. -/
def fnStoreWrong : ChangeSpec := { name := "fnStore", fn := fun _ => fun
  | [d] => { results := [.lit (.bool false)], args := [d] }
  | _ => none }
def FnStoreWrongFalsely : Prop := fnStoreRow.holds Tryz.pinned (OpenSpec.ofChange fnStoreWrong)

/-- 'laws.FnStoreRefused': WHATEVER THE INPUT: true; the input reads as it did. -/
def fnStoreRefusedSpec : ChangeSpec := { name := "fnStoreRefused", fn := fun _ => fun
  | [d] => { results := [.lit (.bool true)], args := [d] }
  | _ => none }
def fnStoreRefusedRow : OpenClaim := { program := "ytmmjmckajcfffaagreatdoor", sum := "f6858a323c1b9f3cbe9bc148b7b82d2f0496adcc74dfbb51a805a6f67da6d27a", func := "loop.example/exopager/laws.FnStoreRefused", spec := "fnStoreRefused", inPlace := ["internal/bytealg.IndexByteString", "internal/bytealg.IndexString", "slices.overlaps[string]"], unfollowed := true, recurses := true, named := ["unicode/utf8.first", "unicode/utf8.acceptRanges", "internal/bytealg.MaxLen"], apart := false, laid := [("unicode/utf8.acceptRanges", laid_unicode_utf8_acceptRanges), ("unicode/utf8.first", laid_unicode_utf8_first)] }
def FnStoreRefusedSaid : Prop := fnStoreRefusedRow.holds Tryz.pinned (OpenSpec.ofChange fnStoreRefusedSpec)

/-- ITS FALSE NEIGHBOUR: 'it returns false'. Refute it at one input. -/
def fnStoreRefusedWrong : ChangeSpec := { name := "fnStoreRefused", fn := fun _ => fun
  | [d] => { results := [.lit (.bool false)], args := [d] }
  | _ => none }
def FnStoreRefusedWrongFalsely : Prop := fnStoreRefusedRow.holds Tryz.pinned (OpenSpec.ofChange fnStoreRefusedWrong)

/- THE SECOND FORM. 'bulk': how many values and letters a reading holds, each counted each time it is reached (what is shared counts as often as it is met; a slice's spare places count too). A statement '..UptoSaid' is the law's where the arguments, and the package variables that the reading takes, are together of bulk at most 1048576: NARROWER than '..Said'. Prove '..Said' where nothing that the law and all that it calls make is longer than what came in: it says more and counts as full. Else prove '..UptoSaid'. A law counts once. -/
mutual
def uptoBulk {H : Type} : DataW H → Nat
  | .lit (.string bytes) => bytes.length + 1
  | .lit _ => 1
  | .nil => 1
  | .ptr d => uptoBulk d + 1
  | .slice elems spare => uptoBulkAll elems + uptoBulkAll spare + 1
  | .agg parts => uptoBulkAll parts + 1
  | .iface _ d => uptoBulk d + 1
  | .map entries => uptoBulkEntries entries + 1
  | .held _ => 1
def uptoBulkAll {H : Type} : List (DataW H) → Nat
  | [] => 0
  | d :: r => uptoBulk d + uptoBulkAll r
def uptoBulkEntries {H : Type} : List (Lit × DataW H) → Nat
  | [] => 0
  | x :: r => uptoBulkEntry x + uptoBulkEntries r
def uptoBulkEntry {H : Type} : Lit × DataW H → Nat
  | (.string bytes, d) => bytes.length + uptoBulk d + 1
  | (_, d) => uptoBulk d + 1
 end
def uptoSmall : (H : Type) → List (DataW H) → Bool := fun _ ds => decide (uptoBulkAll ds ≤ 1048576)
def OpenSpec.upto (s : _root_.Go.ChangeSpec) : _root_.Go.OpenSpec := { _root_.Go.OpenSpec.ofChange s with cond := some uptoSmall }

/-- 'laws.FnCallAlien', WHERE WHAT IT READS IS OF BULK AT MOST 1048576: true; the input reads as it did. -/
def fnCallAlienUptoRow : OpenClaim := { program := "ytmmjmckajcfffaagreatdoor", sum := "f6858a323c1b9f3cbe9bc148b7b82d2f0496adcc74dfbb51a805a6f67da6d27a", func := "loop.example/exopager/laws.FnCallAlien", spec := "fnCallAlien", inPlace := ["internal/bytealg.IndexByteString", "internal/bytealg.IndexString", "slices.overlaps[string]"], unfollowed := true, recurses := true, named := ["unicode/utf8.first", "unicode/utf8.acceptRanges", "internal/bytealg.MaxLen"], apart := false, laid := [("unicode/utf8.acceptRanges", laid_unicode_utf8_acceptRanges), ("unicode/utf8.first", laid_unicode_utf8_first)], narrowed := true }
def FnCallAlienUptoSaid : Prop := fnCallAlienUptoRow.holds Tryz.pinned (OpenSpec.upto fnCallAlienSpec)

/-- 'laws.FnTake', WHERE WHAT IT READS IS OF BULK AT MOST 1048576: true; the input reads as it did. -/
def fnTakeUptoRow : OpenClaim := { program := "ytmmjmckajcfffaagreatdoor", sum := "f6858a323c1b9f3cbe9bc148b7b82d2f0496adcc74dfbb51a805a6f67da6d27a", func := "loop.example/exopager/laws.FnTake", spec := "fnTake", inPlace := ["internal/bytealg.IndexByteString", "internal/bytealg.IndexString", "slices.overlaps[string]"], unfollowed := true, recurses := true, named := ["unicode/utf8.first", "unicode/utf8.acceptRanges", "internal/bytealg.MaxLen"], apart := false, laid := [("unicode/utf8.acceptRanges", laid_unicode_utf8_acceptRanges), ("unicode/utf8.first", laid_unicode_utf8_first)], narrowed := true }
def FnTakeUptoSaid : Prop := fnTakeUptoRow.holds Tryz.pinned (OpenSpec.upto fnTakeSpec)

/-- 'laws.FnTakeRefused', WHERE WHAT IT READS IS OF BULK AT MOST 1048576: true; the input reads as it did. -/
def fnTakeRefusedUptoRow : OpenClaim := { program := "ytmmjmckajcfffaagreatdoor", sum := "f6858a323c1b9f3cbe9bc148b7b82d2f0496adcc74dfbb51a805a6f67da6d27a", func := "loop.example/exopager/laws.FnTakeRefused", spec := "fnTakeRefused", inPlace := ["internal/bytealg.IndexByteString", "internal/bytealg.IndexString", "slices.overlaps[string]"], unfollowed := true, recurses := true, named := ["unicode/utf8.first", "unicode/utf8.acceptRanges", "internal/bytealg.MaxLen"], apart := false, laid := [("unicode/utf8.acceptRanges", laid_unicode_utf8_acceptRanges), ("unicode/utf8.first", laid_unicode_utf8_first)], narrowed := true }
def FnTakeRefusedUptoSaid : Prop := fnTakeRefusedUptoRow.holds Tryz.pinned (OpenSpec.upto fnTakeRefusedSpec)

/-- 'laws.FnPoke', WHERE WHAT IT READS IS OF BULK AT MOST 1048576: true; the input reads as it did. -/
def fnPokeUptoRow : OpenClaim := { program := "ytmmjmckajcfffaagreatdoor", sum := "f6858a323c1b9f3cbe9bc148b7b82d2f0496adcc74dfbb51a805a6f67da6d27a", func := "loop.example/exopager/laws.FnPoke", spec := "fnPoke", inPlace := ["internal/bytealg.IndexByteString", "internal/bytealg.IndexString", "slices.overlaps[string]"], unfollowed := true, recurses := true, named := ["unicode/utf8.first", "unicode/utf8.acceptRanges", "internal/bytealg.MaxLen"], apart := false, laid := [("unicode/utf8.acceptRanges", laid_unicode_utf8_acceptRanges), ("unicode/utf8.first", laid_unicode_utf8_first)], narrowed := true }
def FnPokeUptoSaid : Prop := fnPokeUptoRow.holds Tryz.pinned (OpenSpec.upto fnPokeSpec)

/-- 'laws.FnGrantRevoke', WHERE WHAT IT READS IS OF BULK AT MOST 1048576: true; the input reads as it did. -/
def fnGrantRevokeUptoRow : OpenClaim := { program := "ytmmjmckajcfffaagreatdoor", sum := "f6858a323c1b9f3cbe9bc148b7b82d2f0496adcc74dfbb51a805a6f67da6d27a", func := "loop.example/exopager/laws.FnGrantRevoke", spec := "fnGrantRevoke", inPlace := ["internal/bytealg.IndexByteString", "internal/bytealg.IndexString", "slices.overlaps[string]"], unfollowed := true, recurses := true, named := ["unicode/utf8.first", "unicode/utf8.acceptRanges", "internal/bytealg.MaxLen"], apart := false, laid := [("unicode/utf8.acceptRanges", laid_unicode_utf8_acceptRanges), ("unicode/utf8.first", laid_unicode_utf8_first)], narrowed := true }
def FnGrantRevokeUptoSaid : Prop := fnGrantRevokeUptoRow.holds Tryz.pinned (OpenSpec.upto fnGrantRevokeSpec)

/-- 'laws.FnRevoke', WHERE WHAT IT READS IS OF BULK AT MOST 1048576: true; the input reads as it did. -/
def fnRevokeUptoRow : OpenClaim := { program := "ytmmjmckajcfffaagreatdoor", sum := "f6858a323c1b9f3cbe9bc148b7b82d2f0496adcc74dfbb51a805a6f67da6d27a", func := "loop.example/exopager/laws.FnRevoke", spec := "fnRevoke", inPlace := ["internal/bytealg.IndexByteString", "internal/bytealg.IndexString", "slices.overlaps[string]"], unfollowed := true, recurses := true, named := ["unicode/utf8.first", "unicode/utf8.acceptRanges", "internal/bytealg.MaxLen"], apart := false, laid := [("unicode/utf8.acceptRanges", laid_unicode_utf8_acceptRanges), ("unicode/utf8.first", laid_unicode_utf8_first)], narrowed := true }
def FnRevokeUptoSaid : Prop := fnRevokeUptoRow.holds Tryz.pinned (OpenSpec.upto fnRevokeSpec)

/-- 'laws.FnLoad', WHERE WHAT IT READS IS OF BULK AT MOST 1048576: true; the input reads as it did. -/
def fnLoadUptoRow : OpenClaim := { program := "ytmmjmckajcfffaagreatdoor", sum := "f6858a323c1b9f3cbe9bc148b7b82d2f0496adcc74dfbb51a805a6f67da6d27a", func := "loop.example/exopager/laws.FnLoad", spec := "fnLoad", inPlace := ["internal/bytealg.IndexByteString", "internal/bytealg.IndexString", "slices.overlaps[string]"], unfollowed := true, recurses := true, named := ["unicode/utf8.first", "unicode/utf8.acceptRanges", "internal/bytealg.MaxLen"], apart := false, laid := [("unicode/utf8.acceptRanges", laid_unicode_utf8_acceptRanges), ("unicode/utf8.first", laid_unicode_utf8_first)], narrowed := true }
def FnLoadUptoSaid : Prop := fnLoadUptoRow.holds Tryz.pinned (OpenSpec.upto fnLoadSpec)

/-- 'laws.FnLoadCache', WHERE WHAT IT READS IS OF BULK AT MOST 1048576: true; the input reads as it did. -/
def fnLoadCacheUptoRow : OpenClaim := { program := "ytmmjmckajcfffaagreatdoor", sum := "f6858a323c1b9f3cbe9bc148b7b82d2f0496adcc74dfbb51a805a6f67da6d27a", func := "loop.example/exopager/laws.FnLoadCache", spec := "fnLoadCache", inPlace := ["internal/bytealg.IndexByteString", "internal/bytealg.IndexString", "slices.overlaps[string]"], unfollowed := true, recurses := true, named := ["unicode/utf8.first", "unicode/utf8.acceptRanges", "internal/bytealg.MaxLen"], apart := false, laid := [("unicode/utf8.acceptRanges", laid_unicode_utf8_acceptRanges), ("unicode/utf8.first", laid_unicode_utf8_first)], narrowed := true }
def FnLoadCacheUptoSaid : Prop := fnLoadCacheUptoRow.holds Tryz.pinned (OpenSpec.upto fnLoadCacheSpec)

/-- 'laws.FnSet', WHERE WHAT IT READS IS OF BULK AT MOST 1048576: true; the input reads as it did. -/
def fnSetUptoRow : OpenClaim := { program := "ytmmjmckajcfffaagreatdoor", sum := "f6858a323c1b9f3cbe9bc148b7b82d2f0496adcc74dfbb51a805a6f67da6d27a", func := "loop.example/exopager/laws.FnSet", spec := "fnSet", inPlace := ["internal/bytealg.IndexByteString", "internal/bytealg.IndexString", "slices.overlaps[string]"], unfollowed := true, recurses := true, named := ["unicode/utf8.first", "unicode/utf8.acceptRanges", "internal/bytealg.MaxLen"], apart := false, laid := [("unicode/utf8.acceptRanges", laid_unicode_utf8_acceptRanges), ("unicode/utf8.first", laid_unicode_utf8_first)], narrowed := true }
def FnSetUptoSaid : Prop := fnSetUptoRow.holds Tryz.pinned (OpenSpec.upto fnSetSpec)

/-- 'laws.FnSetRights', WHERE WHAT IT READS IS OF BULK AT MOST 1048576: true; the input reads as it did. -/
def fnSetRightsUptoRow : OpenClaim := { program := "ytmmjmckajcfffaagreatdoor", sum := "f6858a323c1b9f3cbe9bc148b7b82d2f0496adcc74dfbb51a805a6f67da6d27a", func := "loop.example/exopager/laws.FnSetRights", spec := "fnSetRights", inPlace := ["internal/bytealg.IndexByteString", "internal/bytealg.IndexString", "slices.overlaps[string]"], unfollowed := true, recurses := true, named := ["unicode/utf8.first", "unicode/utf8.acceptRanges", "internal/bytealg.MaxLen"], apart := false, laid := [("unicode/utf8.acceptRanges", laid_unicode_utf8_acceptRanges), ("unicode/utf8.first", laid_unicode_utf8_first)], narrowed := true }
def FnSetRightsUptoSaid : Prop := fnSetRightsUptoRow.holds Tryz.pinned (OpenSpec.upto fnSetRightsSpec)

/-- 'laws.FnStore', WHERE WHAT IT READS IS OF BULK AT MOST 1048576: true; the input reads as it did. -/
def fnStoreUptoRow : OpenClaim := { program := "ytmmjmckajcfffaagreatdoor", sum := "f6858a323c1b9f3cbe9bc148b7b82d2f0496adcc74dfbb51a805a6f67da6d27a", func := "loop.example/exopager/laws.FnStore", spec := "fnStore", inPlace := ["internal/bytealg.IndexByteString", "internal/bytealg.IndexString", "slices.overlaps[string]"], unfollowed := true, recurses := true, named := ["unicode/utf8.first", "unicode/utf8.acceptRanges", "internal/bytealg.MaxLen"], apart := false, laid := [("unicode/utf8.acceptRanges", laid_unicode_utf8_acceptRanges), ("unicode/utf8.first", laid_unicode_utf8_first)], narrowed := true }
def FnStoreUptoSaid : Prop := fnStoreUptoRow.holds Tryz.pinned (OpenSpec.upto fnStoreSpec)

/-- 'laws.FnStoreRefused', WHERE WHAT IT READS IS OF BULK AT MOST 1048576: true; the input reads as it did. -/
def fnStoreRefusedUptoRow : OpenClaim := { program := "ytmmjmckajcfffaagreatdoor", sum := "f6858a323c1b9f3cbe9bc148b7b82d2f0496adcc74dfbb51a805a6f67da6d27a", func := "loop.example/exopager/laws.FnStoreRefused", spec := "fnStoreRefused", inPlace := ["internal/bytealg.IndexByteString", "internal/bytealg.IndexString", "slices.overlaps[string]"], unfollowed := true, recurses := true, named := ["unicode/utf8.first", "unicode/utf8.acceptRanges", "internal/bytealg.MaxLen"], apart := false, laid := [("unicode/utf8.acceptRanges", laid_unicode_utf8_acceptRanges), ("unicode/utf8.first", laid_unicode_utf8_first)], narrowed := true }
def FnStoreRefusedUptoSaid : Prop := fnStoreRefusedUptoRow.holds Tryz.pinned (OpenSpec.upto fnStoreRefusedSpec)

end Rows
end Go.Proofs.YtmmjmckajcfffaaGreatDoor
