/-
  DERIVED. GIVEN WITH THE SEED: THE CARDS: each row of YthcmmoibpgcgaaaGreatDoorRows.lean that lists a variable, with what it lists TIED to the program's text (the seventh form; the later family's looks); each row that meets fmt, with fmt's text TOLD by the authors' own Lean function (tested against real Go, not proved from fmt's source: count such statements apart). THE CARD IS WHAT COUNTS. Prove the row's statement (the work); the ties are given (YthcmmoibpgcgaaaGreatDoorTie.lean); close each card by the builder's one call (the guide's Derived/Test/ToyasCard.lean, 'card_holds'). Laid BY PROGRAM, IN A SANDBOX (cutbox-door.mjs). By AI agents, Wed Nov 11 2026. No macro, syntax, notation, axiom, sorry.
-/
import Derived.Test.YthcmmoibpgcgaaaGreatDoorRows
import GoSem.ClaimSeven
namespace Go.Proofs.YthcmmoibpgcgaaaGreatDoor
namespace Rows

/-- THE TIED CARD OF 'laws.FnPagerLimit'. -/
def fnPagerLimitCard : Claim7 := { stood := { row := fnPagerLimitRow, standIns := [], harness := (true, "82bea42e1cace3a70ebde2eee3de67f590f16ed99d39bf12c2f3ab0902a46a48"), looks := false }, kinds := [], alts := [], laidByText := true, laidKinds := [.data, .pinned], laidTests := true, laidLooks := .later }
def FnPagerLimitCardSaid : Prop := Claim7.holds Tryz.pinned (.plain (OpenSpec.ofChange fnPagerLimitSpec)) fnPagerLimitCard

/-- THE TIED CARD OF 'laws.FnPagerSees'. -/
def fnPagerSeesCard : Claim7 := { stood := { row := fnPagerSeesRow, standIns := [], harness := (true, "82bea42e1cace3a70ebde2eee3de67f590f16ed99d39bf12c2f3ab0902a46a48"), looks := false }, kinds := [], alts := [], laidByText := true, laidKinds := [.data, .pinned], laidTests := true, laidLooks := .later }
def FnPagerSeesCardSaid : Prop := Claim7.holds Tryz.pinned (.plain (OpenSpec.ofChange fnPagerSeesSpec)) fnPagerSeesCard

/-- THE TIED CARD OF 'laws.FnPagerWord'. -/
def fnPagerWordCard : Claim7 := { stood := { row := fnPagerWordRow, standIns := [], harness := (true, "82bea42e1cace3a70ebde2eee3de67f590f16ed99d39bf12c2f3ab0902a46a48"), looks := false }, kinds := [], alts := [], laidByText := true, laidKinds := [.data, .pinned], laidTests := true, laidLooks := .later }
def FnPagerWordCardSaid : Prop := Claim7.holds Tryz.pinned (.plain (OpenSpec.ofChange fnPagerWordSpec)) fnPagerWordCard

/-- THE TIED CARD OF 'laws.FnKernelPlay'. -/
def fnKernelPlayCard : Claim7 := { stood := { row := fnKernelPlayRow, standIns := [], harness := (true, "82bea42e1cace3a70ebde2eee3de67f590f16ed99d39bf12c2f3ab0902a46a48"), looks := false }, kinds := [], alts := [], laidByText := true, laidKinds := [.data, .pinned], laidTests := true, laidLooks := .later }
def FnKernelPlayCardSaid : Prop := Claim7.holds Tryz.pinned (.plain (OpenSpec.ofChange fnKernelPlaySpec)) fnKernelPlayCard

/-- THE TIED CARD OF 'laws.FnKernelPlaySplit'. -/
def fnKernelPlaySplitCard : Claim7 := { stood := { row := fnKernelPlaySplitRow, standIns := [], harness := (true, "82bea42e1cace3a70ebde2eee3de67f590f16ed99d39bf12c2f3ab0902a46a48"), looks := false }, kinds := [], alts := [], laidByText := true, laidKinds := [.data, .pinned], laidTests := true, laidLooks := .later }
def FnKernelPlaySplitCardSaid : Prop := Claim7.holds Tryz.pinned (.plain (OpenSpec.ofChange fnKernelPlaySplitSpec)) fnKernelPlaySplitCard

/-- THE TIED CARD OF 'laws.FnExactKernelCall'. -/
def fnExactKernelCallCard : Claim7 := { stood := { row := fnExactKernelCallRow, standIns := [], harness := (true, "82bea42e1cace3a70ebde2eee3de67f590f16ed99d39bf12c2f3ab0902a46a48"), looks := false }, kinds := [], alts := [], laidByText := true, laidKinds := [.data, .pinned], laidTests := true, laidLooks := .later }
def FnExactKernelCallCardSaid : Prop := Claim7.holds Tryz.pinned (.plain (OpenSpec.ofChange fnExactKernelCallSpec)) fnExactKernelCallCard

/-- THE TIED CARD OF 'laws.FnExactKernelPlay'. -/
def fnExactKernelPlayCard : Claim7 := { stood := { row := fnExactKernelPlayRow, standIns := [], harness := (true, "82bea42e1cace3a70ebde2eee3de67f590f16ed99d39bf12c2f3ab0902a46a48"), looks := false }, kinds := [], alts := [], laidByText := true, laidKinds := [.data, .pinned], laidTests := true, laidLooks := .later }
def FnExactKernelPlayCardSaid : Prop := Claim7.holds Tryz.pinned (.plain (OpenSpec.ofChange fnExactKernelPlaySpec)) fnExactKernelPlayCard

/-- THE SECOND FORM's CARD OF 'laws.FnPagerLimit'. -/
def fnPagerLimitUptoCard : Claim7 := { stood := { row := fnPagerLimitUptoRow, standIns := [], harness := (true, "82bea42e1cace3a70ebde2eee3de67f590f16ed99d39bf12c2f3ab0902a46a48"), looks := false }, kinds := [], alts := [], laidByText := true, laidKinds := [.data, .pinned], laidTests := true, laidLooks := .later }
def FnPagerLimitUptoCardSaid : Prop := Claim7.holds Tryz.pinned (.plain (OpenSpec.upto fnPagerLimitSpec)) fnPagerLimitUptoCard

/-- THE SECOND FORM's CARD OF 'laws.FnPagerSees'. -/
def fnPagerSeesUptoCard : Claim7 := { stood := { row := fnPagerSeesUptoRow, standIns := [], harness := (true, "82bea42e1cace3a70ebde2eee3de67f590f16ed99d39bf12c2f3ab0902a46a48"), looks := false }, kinds := [], alts := [], laidByText := true, laidKinds := [.data, .pinned], laidTests := true, laidLooks := .later }
def FnPagerSeesUptoCardSaid : Prop := Claim7.holds Tryz.pinned (.plain (OpenSpec.upto fnPagerSeesSpec)) fnPagerSeesUptoCard

/-- THE SECOND FORM's CARD OF 'laws.FnPagerWord'. -/
def fnPagerWordUptoCard : Claim7 := { stood := { row := fnPagerWordUptoRow, standIns := [], harness := (true, "82bea42e1cace3a70ebde2eee3de67f590f16ed99d39bf12c2f3ab0902a46a48"), looks := false }, kinds := [], alts := [], laidByText := true, laidKinds := [.data, .pinned], laidTests := true, laidLooks := .later }
def FnPagerWordUptoCardSaid : Prop := Claim7.holds Tryz.pinned (.plain (OpenSpec.upto fnPagerWordSpec)) fnPagerWordUptoCard

/-- THE SECOND FORM's CARD OF 'laws.FnKernelPlay'. -/
def fnKernelPlayUptoCard : Claim7 := { stood := { row := fnKernelPlayUptoRow, standIns := [], harness := (true, "82bea42e1cace3a70ebde2eee3de67f590f16ed99d39bf12c2f3ab0902a46a48"), looks := false }, kinds := [], alts := [], laidByText := true, laidKinds := [.data, .pinned], laidTests := true, laidLooks := .later }
def FnKernelPlayUptoCardSaid : Prop := Claim7.holds Tryz.pinned (.plain (OpenSpec.upto fnKernelPlaySpec)) fnKernelPlayUptoCard

/-- THE SECOND FORM's CARD OF 'laws.FnKernelPlaySplit'. -/
def fnKernelPlaySplitUptoCard : Claim7 := { stood := { row := fnKernelPlaySplitUptoRow, standIns := [], harness := (true, "82bea42e1cace3a70ebde2eee3de67f590f16ed99d39bf12c2f3ab0902a46a48"), looks := false }, kinds := [], alts := [], laidByText := true, laidKinds := [.data, .pinned], laidTests := true, laidLooks := .later }
def FnKernelPlaySplitUptoCardSaid : Prop := Claim7.holds Tryz.pinned (.plain (OpenSpec.upto fnKernelPlaySplitSpec)) fnKernelPlaySplitUptoCard

/-- THE SECOND FORM's CARD OF 'laws.FnExactKernelCall'. -/
def fnExactKernelCallUptoCard : Claim7 := { stood := { row := fnExactKernelCallUptoRow, standIns := [], harness := (true, "82bea42e1cace3a70ebde2eee3de67f590f16ed99d39bf12c2f3ab0902a46a48"), looks := false }, kinds := [], alts := [], laidByText := true, laidKinds := [.data, .pinned], laidTests := true, laidLooks := .later }
def FnExactKernelCallUptoCardSaid : Prop := Claim7.holds Tryz.pinned (.plain (OpenSpec.upto fnExactKernelCallSpec)) fnExactKernelCallUptoCard

/-- THE SECOND FORM's CARD OF 'laws.FnExactKernelPlay'. -/
def fnExactKernelPlayUptoCard : Claim7 := { stood := { row := fnExactKernelPlayUptoRow, standIns := [], harness := (true, "82bea42e1cace3a70ebde2eee3de67f590f16ed99d39bf12c2f3ab0902a46a48"), looks := false }, kinds := [], alts := [], laidByText := true, laidKinds := [.data, .pinned], laidTests := true, laidLooks := .later }
def FnExactKernelPlayUptoCardSaid : Prop := Claim7.holds Tryz.pinned (.plain (OpenSpec.upto fnExactKernelPlaySpec)) fnExactKernelPlayUptoCard
end Rows
end Go.Proofs.YthcmmoibpgcgaaaGreatDoor
