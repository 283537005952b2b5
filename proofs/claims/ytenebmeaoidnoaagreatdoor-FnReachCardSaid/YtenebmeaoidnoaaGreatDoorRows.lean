/-
  NARROWER THAN 'FOR EVERY INPUT', by the rows' own cells (each row's printed sentence says how): FnKernelForget: laid · FnKernelCache: laid · FnKernelRefs: laid · FnKernelRights: laid · FnKernelTables: laid · FnSeesNone: laid · FnReach: laid · FnSees: laid.
  DERIVED. THE GIVEN ROWS OF THIS SEAT. 8 by the template 'for every input the law returns true; each argument reads behind the call as it read before'; 0 by the template 'total and deterministic' (their statements: YtenebmeaoidnoaaGreatDoorTotals.lean).
  GIVEN WITH THE SEED: the statements are not yours to turn. If you find one false, say at which input.
  Laid BY PROGRAM, IN A SANDBOX (cutbox-rows.mjs): the forced cells as the released guide's own fill.sh prints them over the translation 6e43549e11361288… (all of the seat's roots in one cut). By AI agents, Wed Nov 11 2026. No macro, syntax, notation, axiom, sorry.
-/
import Derived.Test.YtenebmeaoidnoaaGreatDoorChecked
import GoSem.PinnedTables
import GoSem.Claim
import GoSem.ClaimJoined
import GoSem.ClaimMapViews
import Derived.JoinedTies
import Derived.KernelRfl
namespace Go.Proofs.YtenebmeaoidnoaaGreatDoor
/- THE CELL 'sum', in the pinned program and in every row, IS THE sha256 OF THE DUMP (.gsa) THAT YtenebmeaoidnoaaGreatDoorProg.lean LOADS. Nothing in Lean hashes anything: it is a label: what it is worth is what the hold of that sum in a sandbox is worth. -/
noncomputable def Tryz.pinned : Pinned := { name := "ytenebmeaoidnoaagreatdoor", sum := "6e43549e1136128876dbca1c4f47c0aa2673fb2ed513d075ffabf78a7f140e8e", checked := Tryz.checked }
namespace Rows
def none {H : Type} : Left H := { results := [], args := [] }

/- WHAT THE LISTED PACKAGE-LEVEL VARIABLES READ AS WHEN THE CALL BEGINS. Each datum BY PROGRAM (the guide's laid-datum.mjs) off the statement by which the dump's own 'gosem.cut.vars' lays the variable. In a bare row this is a premise. The card (YtenebmeaoidnoaaGreatDoorCards.lean) ties it to the program's text. -/
def laid_unicode_utf8_acceptRanges {H : Type} : DataW H := .agg [.agg [.lit (.int .u8 128), .lit (.int .u8 191)], .agg [.lit (.int .u8 160), .lit (.int .u8 191)], .agg [.lit (.int .u8 128), .lit (.int .u8 159)], .agg [.lit (.int .u8 144), .lit (.int .u8 191)], .agg [.lit (.int .u8 128), .lit (.int .u8 143)], .agg [.lit (.int .u8 0), .lit (.int .u8 0)], .agg [.lit (.int .u8 0), .lit (.int .u8 0)], .agg [.lit (.int .u8 0), .lit (.int .u8 0)], .agg [.lit (.int .u8 0), .lit (.int .u8 0)], .agg [.lit (.int .u8 0), .lit (.int .u8 0)], .agg [.lit (.int .u8 0), .lit (.int .u8 0)], .agg [.lit (.int .u8 0), .lit (.int .u8 0)], .agg [.lit (.int .u8 0), .lit (.int .u8 0)], .agg [.lit (.int .u8 0), .lit (.int .u8 0)], .agg [.lit (.int .u8 0), .lit (.int .u8 0)], .agg [.lit (.int .u8 0), .lit (.int .u8 0)]]
/-- One of Go's own tables, pinned by name: the form's constant. -/
def laid_unicode_utf8_first : DataW Unit := Go.Pinned.utf8First

/-- 'laws.FnKernelForget': WHATEVER THE INPUT: true; the input reads as it did. -/
def fnKernelForgetSpec : ChangeSpec := { name := "fnKernelForget", fn := fun _ => fun
  | [d1, d2] => { results := [.lit (.bool true)], args := [d1, d2] }
  | _ => none }
def fnKernelForgetRow : OpenClaim := { program := "ytenebmeaoidnoaagreatdoor", sum := "6e43549e1136128876dbca1c4f47c0aa2673fb2ed513d075ffabf78a7f140e8e", func := "loop.example/exopager/laws.FnKernelForget", spec := "fnKernelForget", inPlace := ["internal/bytealg.IndexByteString", "internal/bytealg.IndexString"], unfollowed := true, recurses := true, named := ["unicode/utf8.first", "unicode/utf8.acceptRanges", "internal/bytealg.MaxLen"], apart := false, laid := [("unicode/utf8.acceptRanges", laid_unicode_utf8_acceptRanges), ("unicode/utf8.first", laid_unicode_utf8_first)] }
def FnKernelForgetSaid : Prop := fnKernelForgetRow.holds Tryz.pinned (OpenSpec.ofChange fnKernelForgetSpec)

/-- ITS FALSE NEIGHBOUR: 'it returns false'. Refute it at one input. -/
def fnKernelForgetWrong : ChangeSpec := { name := "fnKernelForget", fn := fun _ => fun
  | [d1, d2] => { results := [.lit (.bool false)], args := [d1, d2] }
  | _ => none }
def FnKernelForgetWrongFalsely : Prop := fnKernelForgetRow.holds Tryz.pinned (OpenSpec.ofChange fnKernelForgetWrong)

/-- 'laws.FnKernelCache': WHATEVER THE INPUT: true; the input reads as it did. -/
def fnKernelCacheSpec : ChangeSpec := { name := "fnKernelCache", fn := fun _ => fun
  | [d] => { results := [.lit (.bool true)], args := [d] }
  | _ => none }
def fnKernelCacheRow : OpenClaim := { program := "ytenebmeaoidnoaagreatdoor", sum := "6e43549e1136128876dbca1c4f47c0aa2673fb2ed513d075ffabf78a7f140e8e", func := "loop.example/exopager/laws.FnKernelCache", spec := "fnKernelCache", inPlace := ["internal/bytealg.IndexByteString", "internal/bytealg.IndexString"], unfollowed := true, recurses := true, named := ["unicode/utf8.first", "unicode/utf8.acceptRanges", "internal/bytealg.MaxLen"], apart := false, laid := [("unicode/utf8.acceptRanges", laid_unicode_utf8_acceptRanges), ("unicode/utf8.first", laid_unicode_utf8_first)] }
def FnKernelCacheSaid : Prop := fnKernelCacheRow.holds Tryz.pinned (OpenSpec.ofChange fnKernelCacheSpec)

/-- ITS FALSE NEIGHBOUR: 'it returns false'. Refute it at one input. -/
def fnKernelCacheWrong : ChangeSpec := { name := "fnKernelCache", fn := fun _ => fun
  | [d] => { results := [.lit (.bool false)], args := [d] }
  | _ => none }
def FnKernelCacheWrongFalsely : Prop := fnKernelCacheRow.holds Tryz.pinned (OpenSpec.ofChange fnKernelCacheWrong)

/-- 'laws.FnKernelRefs': WHATEVER THE INPUT: true; the input reads as it did. -/
def fnKernelRefsSpec : ChangeSpec := { name := "fnKernelRefs", fn := fun _ => fun
  | [d] => { results := [.lit (.bool true)], args := [d] }
  | _ => none }
def fnKernelRefsRow : OpenClaim := { program := "ytenebmeaoidnoaagreatdoor", sum := "6e43549e1136128876dbca1c4f47c0aa2673fb2ed513d075ffabf78a7f140e8e", func := "loop.example/exopager/laws.FnKernelRefs", spec := "fnKernelRefs", inPlace := ["internal/bytealg.IndexByteString", "internal/bytealg.IndexString"], unfollowed := true, recurses := true, named := ["unicode/utf8.first", "unicode/utf8.acceptRanges", "internal/bytealg.MaxLen"], apart := false, laid := [("unicode/utf8.acceptRanges", laid_unicode_utf8_acceptRanges), ("unicode/utf8.first", laid_unicode_utf8_first)] }
def FnKernelRefsSaid : Prop := fnKernelRefsRow.holds Tryz.pinned (OpenSpec.ofChange fnKernelRefsSpec)

/-- ITS FALSE NEIGHBOUR: 'it returns false'. Refute it at one input. -/
def fnKernelRefsWrong : ChangeSpec := { name := "fnKernelRefs", fn := fun _ => fun
  | [d] => { results := [.lit (.bool false)], args := [d] }
  | _ => none }
def FnKernelRefsWrongFalsely : Prop := fnKernelRefsRow.holds Tryz.pinned (OpenSpec.ofChange fnKernelRefsWrong)

/-- 'laws.FnKernelRights': WHATEVER THE INPUT: true; the input reads as it did. -/
def fnKernelRightsSpec : ChangeSpec := { name := "fnKernelRights", fn := fun _ => fun
  | [d] => { results := [.lit (.bool true)], args := [d] }
  | _ => none }
def fnKernelRightsRow : OpenClaim := { program := "ytenebmeaoidnoaagreatdoor", sum := "6e43549e1136128876dbca1c4f47c0aa2673fb2ed513d075ffabf78a7f140e8e", func := "loop.example/exopager/laws.FnKernelRights", spec := "fnKernelRights", inPlace := ["internal/bytealg.IndexByteString", "internal/bytealg.IndexString"], unfollowed := true, recurses := true, named := ["unicode/utf8.first", "unicode/utf8.acceptRanges", "internal/bytealg.MaxLen"], apart := false, laid := [("unicode/utf8.acceptRanges", laid_unicode_utf8_acceptRanges), ("unicode/utf8.first", laid_unicode_utf8_first)] }
def FnKernelRightsSaid : Prop := fnKernelRightsRow.holds Tryz.pinned (OpenSpec.ofChange fnKernelRightsSpec)

/-- ITS FALSE NEIGHBOUR: 'it returns false'. Refute it at one input. -/
def fnKernelRightsWrong : ChangeSpec := { name := "fnKernelRights", fn := fun _ => fun
  | [d] => { results := [.lit (.bool false)], args := [d] }
  | _ => none }
def FnKernelRightsWrongFalsely : Prop := fnKernelRightsRow.holds Tryz.pinned (OpenSpec.ofChange fnKernelRightsWrong)

/-- 'laws.FnKernelTables': WHATEVER THE INPUT: true; the input reads as it did. -/
def fnKernelTablesSpec : ChangeSpec := { name := "fnKernelTables", fn := fun _ => fun
  | [d] => { results := [.lit (.bool true)], args := [d] }
  | _ => none }
def fnKernelTablesRow : OpenClaim := { program := "ytenebmeaoidnoaagreatdoor", sum := "6e43549e1136128876dbca1c4f47c0aa2673fb2ed513d075ffabf78a7f140e8e", func := "loop.example/exopager/laws.FnKernelTables", spec := "fnKernelTables", inPlace := ["internal/bytealg.IndexByteString", "internal/bytealg.IndexString"], unfollowed := true, recurses := true, named := ["unicode/utf8.first", "unicode/utf8.acceptRanges", "internal/bytealg.MaxLen"], apart := false, laid := [("unicode/utf8.acceptRanges", laid_unicode_utf8_acceptRanges), ("unicode/utf8.first", laid_unicode_utf8_first)] }
def FnKernelTablesSaid : Prop := fnKernelTablesRow.holds Tryz.pinned (OpenSpec.ofChange fnKernelTablesSpec)

/-- ITS FALSE NEIGHBOUR: 'it returns false'. Refute it at one input. -/
def fnKernelTablesWrong : ChangeSpec := { name := "fnKernelTables", fn := fun _ => fun
  | [d] => { results := [.lit (.bool false)], args := [d] }
  | _ => none }
def FnKernelTablesWrongFalsely : Prop := fnKernelTablesRow.holds Tryz.pinned (OpenSpec.ofChange fnKernelTablesWrong)

/-- 'laws.FnSeesNone': WHATEVER THE INPUT: true; the input reads as it did. -/
def fnSeesNoneSpec : ChangeSpec := { name := "fnSeesNone", fn := fun _ => fun
  | [d] => { results := [.lit (.bool true)], args := [d] }
  | _ => none }
def fnSeesNoneRow : OpenClaim := { program := "ytenebmeaoidnoaagreatdoor", sum := "6e43549e1136128876dbca1c4f47c0aa2673fb2ed513d075ffabf78a7f140e8e", func := "loop.example/exopager/laws.FnSeesNone", spec := "fnSeesNone", inPlace := ["internal/bytealg.IndexByteString", "internal/bytealg.IndexString"], unfollowed := true, recurses := true, named := ["unicode/utf8.first", "unicode/utf8.acceptRanges", "internal/bytealg.MaxLen"], apart := false, laid := [("unicode/utf8.acceptRanges", laid_unicode_utf8_acceptRanges), ("unicode/utf8.first", laid_unicode_utf8_first)] }
def FnSeesNoneSaid : Prop := fnSeesNoneRow.holds Tryz.pinned (OpenSpec.ofChange fnSeesNoneSpec)

/-- ITS FALSE NEIGHBOUR: 'it returns false'. Refute it at one input. -/
def fnSeesNoneWrong : ChangeSpec := { name := "fnSeesNone", fn := fun _ => fun
  | [d] => { results := [.lit (.bool false)], args := [d] }
  | _ => none }
def FnSeesNoneWrongFalsely : Prop := fnSeesNoneRow.holds Tryz.pinned (OpenSpec.ofChange fnSeesNoneWrong)

/-- 'laws.FnReach': WHATEVER THE INPUT: true; the input reads as it did. -/
def fnReachSpec : ChangeSpec := { name := "fnReach", fn := fun _ => fun
  | [d] => { results := [.lit (.bool true)], args := [d] }
  | _ => none }
def fnReachRow : OpenClaim := { program := "ytenebmeaoidnoaagreatdoor", sum := "6e43549e1136128876dbca1c4f47c0aa2673fb2ed513d075ffabf78a7f140e8e", func := "loop.example/exopager/laws.FnReach", spec := "fnReach", inPlace := ["internal/bytealg.IndexByteString", "internal/bytealg.IndexString"], unfollowed := true, recurses := true, named := ["unicode/utf8.first", "unicode/utf8.acceptRanges", "internal/bytealg.MaxLen"], apart := false, laid := [("unicode/utf8.acceptRanges", laid_unicode_utf8_acceptRanges), ("unicode/utf8.first", laid_unicode_utf8_first)] }
def FnReachSaid : Prop := fnReachRow.holds Tryz.pinned (OpenSpec.ofChange fnReachSpec)

/-- ITS FALSE NEIGHBOUR: 'it returns false'. Refute it at one input. -/
def fnReachWrong : ChangeSpec := { name := "fnReach", fn := fun _ => fun
  | [d] => { results := [.lit (.bool false)], args := [d] }
  | _ => none }
def FnReachWrongFalsely : Prop := fnReachRow.holds Tryz.pinned (OpenSpec.ofChange fnReachWrong)

/-- 'laws.FnSees': WHATEVER THE INPUT: true; the input reads as it did. -/
def fnSeesSpec : ChangeSpec := { name := "fnSees", fn := fun _ => fun
  | [d] => { results := [.lit (.bool true)], args := [d] }
  | _ => none }
def fnSeesRow : OpenClaim := { program := "ytenebmeaoidnoaagreatdoor", sum := "6e43549e1136128876dbca1c4f47c0aa2673fb2ed513d075ffabf78a7f140e8e", func := "loop.example/exopager/laws.FnSees", spec := "fnSees", inPlace := ["internal/bytealg.IndexByteString", "internal/bytealg.IndexString"], unfollowed := true, recurses := true, named := ["unicode/utf8.first", "unicode/utf8.acceptRanges", "internal/bytealg.MaxLen"], apart := false, laid := [("unicode/utf8.acceptRanges", laid_unicode_utf8_acceptRanges), ("unicode/utf8.first", laid_unicode_utf8_first)] }
def FnSeesSaid : Prop := fnSeesRow.holds Tryz.pinned (OpenSpec.ofChange fnSeesSpec)

/-- ITS FALSE NEIGHBOUR: 'it returns false'. Refute it at one input. -/
def fnSeesWrong : ChangeSpec := { name := "fnSees", fn := fun _ => fun
  | [d] => { results := [.lit (.bool false)], args := [d] }
  | _ => none }
def FnSeesWrongFalsely : Prop := fnSeesRow.holds Tryz.pinned (OpenSpec.ofChange fnSeesWrong)

/- THE SECOND FORM. 'bulk': how many values and letters a reading holds, each counted each time it is reached (what is shared counts as often as it is met; a slice's spare places count too). A statement '..UptoSaid' is the law's where the arguments, and the package variables that the reading takes, are together of bulk at most 1048576: NARROWER than '..Said'. Prove '..Said' where nothing that the law and all that it calls make is longer than what came in: it says more and counts as full. Else prove '..UptoSaid'. A law counts once. -/
mutual
def uptoBulk {H : Type} : DataW H → Nat
  | .lit (.string bytes) => bytes.length + 1
  | .lit _ => 1
  | .nil => 1
  | .ptr d => uptoBulk d + 1
  | .slice elems spare => uptoBulkAll elems + uptoBulkAll spare + 1
  | .agg parts => uptoBulkAll parts + 1
  | .iface _ d => uptoBulk d + 1
  | .map entries => uptoBulkEntries entries + 1
  | .held _ => 1
def uptoBulkAll {H : Type} : List (DataW H) → Nat
  | [] => 0
  | d :: r => uptoBulk d + uptoBulkAll r
def uptoBulkEntries {H : Type} : List (Lit × DataW H) → Nat
  | [] => 0
  | x :: r => uptoBulkEntry x + uptoBulkEntries r
def uptoBulkEntry {H : Type} : Lit × DataW H → Nat
  | (.string bytes, d) => bytes.length + uptoBulk d + 1
  | (_, d) => uptoBulk d + 1
 end
def uptoSmall : (H : Type) → List (DataW H) → Bool := fun _ ds => decide (uptoBulkAll ds ≤ 1048576)
def OpenSpec.upto (s : _root_.Go.ChangeSpec) : _root_.Go.OpenSpec := { _root_.Go.OpenSpec.ofChange s with cond := some uptoSmall }

/-- 'laws.FnKernelForget', WHERE WHAT IT READS IS OF BULK AT MOST 1048576: true; the input reads as it did. -/
def fnKernelForgetUptoRow : OpenClaim := { program := "ytenebmeaoidnoaagreatdoor", sum := "6e43549e1136128876dbca1c4f47c0aa2673fb2ed513d075ffabf78a7f140e8e", func := "loop.example/exopager/laws.FnKernelForget", spec := "fnKernelForget", inPlace := ["internal/bytealg.IndexByteString", "internal/bytealg.IndexString"], unfollowed := true, recurses := true, named := ["unicode/utf8.first", "unicode/utf8.acceptRanges", "internal/bytealg.MaxLen"], apart := false, laid := [("unicode/utf8.acceptRanges", laid_unicode_utf8_acceptRanges), ("unicode/utf8.first", laid_unicode_utf8_first)], narrowed := true }
def FnKernelForgetUptoSaid : Prop := fnKernelForgetUptoRow.holds Tryz.pinned (OpenSpec.upto fnKernelForgetSpec)

/-- 'laws.FnKernelCache', WHERE WHAT IT READS IS OF BULK AT MOST 1048576: true; the input reads as it did. -/
def fnKernelCacheUptoRow : OpenClaim := { program := "ytenebmeaoidnoaagreatdoor", sum := "6e43549e1136128876dbca1c4f47c0aa2673fb2ed513d075ffabf78a7f140e8e", func := "loop.example/exopager/laws.FnKernelCache", spec := "fnKernelCache", inPlace := ["internal/bytealg.IndexByteString", "internal/bytealg.IndexString"], unfollowed := true, recurses := true, named := ["unicode/utf8.first", "unicode/utf8.acceptRanges", "internal/bytealg.MaxLen"], apart := false, laid := [("unicode/utf8.acceptRanges", laid_unicode_utf8_acceptRanges), ("unicode/utf8.first", laid_unicode_utf8_first)], narrowed := true }
def FnKernelCacheUptoSaid : Prop := fnKernelCacheUptoRow.holds Tryz.pinned (OpenSpec.upto fnKernelCacheSpec)

/-- 'laws.FnKernelRefs', WHERE WHAT IT READS IS OF BULK AT MOST 1048576: true; the input reads as it did. -/
def fnKernelRefsUptoRow : OpenClaim := { program := "ytenebmeaoidnoaagreatdoor", sum := "6e43549e1136128876dbca1c4f47c0aa2673fb2ed513d075ffabf78a7f140e8e", func := "loop.example/exopager/laws.FnKernelRefs", spec := "fnKernelRefs", inPlace := ["internal/bytealg.IndexByteString", "internal/bytealg.IndexString"], unfollowed := true, recurses := true, named := ["unicode/utf8.first", "unicode/utf8.acceptRanges", "internal/bytealg.MaxLen"], apart := false, laid := [("unicode/utf8.acceptRanges", laid_unicode_utf8_acceptRanges), ("unicode/utf8.first", laid_unicode_utf8_first)], narrowed := true }
def FnKernelRefsUptoSaid : Prop := fnKernelRefsUptoRow.holds Tryz.pinned (OpenSpec.upto fnKernelRefsSpec)

/-- 'laws.FnKernelRights', WHERE WHAT IT READS IS OF BULK AT MOST 1048576: true; the input reads as it did. -/
def fnKernelRightsUptoRow : OpenClaim := { program := "ytenebmeaoidnoaagreatdoor", sum := "6e43549e1136128876dbca1c4f47c0aa2673fb2ed513d075ffabf78a7f140e8e", func := "loop.example/exopager/laws.FnKernelRights", spec := "fnKernelRights", inPlace := ["internal/bytealg.IndexByteString", "internal/bytealg.IndexString"], unfollowed := true, recurses := true, named := ["unicode/utf8.first", "unicode/utf8.acceptRanges", "internal/bytealg.MaxLen"], apart := false, laid := [("unicode/utf8.acceptRanges", laid_unicode_utf8_acceptRanges), ("unicode/utf8.first", laid_unicode_utf8_first)], narrowed := true }
def FnKernelRightsUptoSaid : Prop := fnKernelRightsUptoRow.holds Tryz.pinned (OpenSpec.upto fnKernelRightsSpec)

/-- 'laws.FnKernelTables', WHERE WHAT IT READS IS OF BULK AT MOST 1048576: true; the input reads as it did. -/
def fnKernelTablesUptoRow : OpenClaim := { program := "ytenebmeaoidnoaagreatdoor", sum := "6e43549e1136128876dbca1c4f47c0aa2673fb2ed513d075ffabf78a7f140e8e", func := "loop.example/exopager/laws.FnKernelTables", spec := "fnKernelTables", inPlace := ["internal/bytealg.IndexByteString", "internal/bytealg.IndexString"], unfollowed := true, recurses := true, named := ["unicode/utf8.first", "unicode/utf8.acceptRanges", "internal/bytealg.MaxLen"], apart := false, laid := [("unicode/utf8.acceptRanges", laid_unicode_utf8_acceptRanges), ("unicode/utf8.first", laid_unicode_utf8_first)], narrowed := true }
def FnKernelTablesUptoSaid : Prop := fnKernelTablesUptoRow.holds Tryz.pinned (OpenSpec.upto fnKernelTablesSpec)

/-- 'laws.FnSeesNone', WHERE WHAT IT READS IS OF BULK AT MOST 1048576: true; the input reads as it did. -/
def fnSeesNoneUptoRow : OpenClaim := { program := "ytenebmeaoidnoaagreatdoor", sum := "6e43549e1136128876dbca1c4f47c0aa2673fb2ed513d075ffabf78a7f140e8e", func := "loop.example/exopager/laws.FnSeesNone", spec := "fnSeesNone", inPlace := ["internal/bytealg.IndexByteString", "internal/bytealg.IndexString"], unfollowed := true, recurses := true, named := ["unicode/utf8.first", "unicode/utf8.acceptRanges", "internal/bytealg.MaxLen"], apart := false, laid := [("unicode/utf8.acceptRanges", laid_unicode_utf8_acceptRanges), ("unicode/utf8.first", laid_unicode_utf8_first)], narrowed := true }
def FnSeesNoneUptoSaid : Prop := fnSeesNoneUptoRow.holds Tryz.pinned (OpenSpec.upto fnSeesNoneSpec)

/-- 'laws.FnReach', WHERE WHAT IT READS IS OF BULK AT MOST 1048576: true; the input reads as it did. -/
def fnReachUptoRow : OpenClaim := { program := "ytenebmeaoidnoaagreatdoor", sum := "6e43549e1136128876dbca1c4f47c0aa2673fb2ed513d075ffabf78a7f140e8e", func := "loop.example/exopager/laws.FnReach", spec := "fnReach", inPlace := ["internal/bytealg.IndexByteString", "internal/bytealg.IndexString"], unfollowed := true, recurses := true, named := ["unicode/utf8.first", "unicode/utf8.acceptRanges", "internal/bytealg.MaxLen"], apart := false, laid := [("unicode/utf8.acceptRanges", laid_unicode_utf8_acceptRanges), ("unicode/utf8.first", laid_unicode_utf8_first)], narrowed := true }
def FnReachUptoSaid : Prop := fnReachUptoRow.holds Tryz.pinned (OpenSpec.upto fnReachSpec)

/-- 'laws.FnSees', WHERE WHAT IT READS IS OF BULK AT MOST 1048576: true; the input reads as it did. -/
def fnSeesUptoRow : OpenClaim := { program := "ytenebmeaoidnoaagreatdoor", sum := "6e43549e1136128876dbca1c4f47c0aa2673fb2ed513d075ffabf78a7f140e8e", func := "loop.example/exopager/laws.FnSees", spec := "fnSees", inPlace := ["internal/bytealg.IndexByteString", "internal/bytealg.IndexString"], unfollowed := true, recurses := true, named := ["unicode/utf8.first", "unicode/utf8.acceptRanges", "internal/bytealg.MaxLen"], apart := false, laid := [("unicode/utf8.acceptRanges", laid_unicode_utf8_acceptRanges), ("unicode/utf8.first", laid_unicode_utf8_first)], narrowed := true }
def FnSeesUptoSaid : Prop := fnSeesUptoRow.holds Tryz.pinned (OpenSpec.upto fnSeesSpec)

end Rows
end Go.Proofs.YtenebmeaoidnoaaGreatDoor
