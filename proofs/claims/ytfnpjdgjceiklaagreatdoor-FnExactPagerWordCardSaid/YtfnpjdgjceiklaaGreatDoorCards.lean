/-
  DERIVED. GIVEN WITH THE SEED: THE CARDS: each row of YtfnpjdgjceiklaaGreatDoorRows.lean that lists a variable, with what it lists TIED to the program's text (the seventh form; the later family's looks); each row that meets fmt, with fmt's text TOLD by the authors' own Lean function (tested against real Go, not proved from fmt's source: count such statements apart). THE CARD IS WHAT COUNTS. Prove the row's statement (the work); the ties are given (YtfnpjdgjceiklaaGreatDoorTie.lean); close each card by the builder's one call (the guide's Derived/Test/ToyasCard.lean, 'card_holds'). Laid BY PROGRAM, IN A SANDBOX (cutbox-door.mjs). By AI agents, Wed Nov 11 2026. No macro, syntax, notation, axiom, sorry.
-/
import Derived.Test.YtfnpjdgjceiklaaGreatDoorRows
import GoSem.ClaimSeven
namespace Go.Proofs.YtfnpjdgjceiklaaGreatDoor
namespace Rows

/-- THE TIED CARD OF 'laws.FnExactPagerValid'. -/
def fnExactPagerValidCard : Claim7 := { stood := { row := fnExactPagerValidRow, standIns := [], harness := (true, "6fda4b364b47c979e4cebd9628c9ae5945a4a95e2448365c0576695cee3d8f4d"), looks := false }, kinds := [], alts := [], laidByText := true, laidKinds := [.data, .pinned], laidTests := true, laidLooks := .later }
def FnExactPagerValidCardSaid : Prop := Claim7.holds Tryz.pinned (.plain (OpenSpec.ofChange fnExactPagerValidSpec)) fnExactPagerValidCard

/-- THE TIED CARD OF 'laws.FnExactPagerWord'. -/
def fnExactPagerWordCard : Claim7 := { stood := { row := fnExactPagerWordRow, standIns := [], harness := (true, "6fda4b364b47c979e4cebd9628c9ae5945a4a95e2448365c0576695cee3d8f4d"), looks := false }, kinds := [], alts := [], laidByText := true, laidKinds := [.data, .pinned], laidTests := true, laidLooks := .later }
def FnExactPagerWordCardSaid : Prop := Claim7.holds Tryz.pinned (.plain (OpenSpec.ofChange fnExactPagerWordSpec)) fnExactPagerWordCard

/-- THE TIED CARD OF 'laws.FnExactKernelCall'. -/
def fnExactKernelCallCard : Claim7 := { stood := { row := fnExactKernelCallRow, standIns := [], harness := (true, "6fda4b364b47c979e4cebd9628c9ae5945a4a95e2448365c0576695cee3d8f4d"), looks := false }, kinds := [], alts := [], laidByText := true, laidKinds := [.data, .pinned], laidTests := true, laidLooks := .later }
def FnExactKernelCallCardSaid : Prop := Claim7.holds Tryz.pinned (.plain (OpenSpec.ofChange fnExactKernelCallSpec)) fnExactKernelCallCard

/-- THE TIED CARD OF 'laws.FnExactKernelPlay'. -/
def fnExactKernelPlayCard : Claim7 := { stood := { row := fnExactKernelPlayRow, standIns := [], harness := (true, "6fda4b364b47c979e4cebd9628c9ae5945a4a95e2448365c0576695cee3d8f4d"), looks := false }, kinds := [], alts := [], laidByText := true, laidKinds := [.data, .pinned], laidTests := true, laidLooks := .later }
def FnExactKernelPlayCardSaid : Prop := Claim7.holds Tryz.pinned (.plain (OpenSpec.ofChange fnExactKernelPlaySpec)) fnExactKernelPlayCard

/-- THE SECOND FORM's CARD OF 'laws.FnExactPagerValid'. -/
def fnExactPagerValidUptoCard : Claim7 := { stood := { row := fnExactPagerValidUptoRow, standIns := [], harness := (true, "6fda4b364b47c979e4cebd9628c9ae5945a4a95e2448365c0576695cee3d8f4d"), looks := false }, kinds := [], alts := [], laidByText := true, laidKinds := [.data, .pinned], laidTests := true, laidLooks := .later }
def FnExactPagerValidUptoCardSaid : Prop := Claim7.holds Tryz.pinned (.plain (OpenSpec.upto fnExactPagerValidSpec)) fnExactPagerValidUptoCard

/-- THE SECOND FORM's CARD OF 'laws.FnExactPagerWord'. -/
def fnExactPagerWordUptoCard : Claim7 := { stood := { row := fnExactPagerWordUptoRow, standIns := [], harness := (true, "6fda4b364b47c979e4cebd9628c9ae5945a4a95e2448365c0576695cee3d8f4d"), looks := false }, kinds := [], alts := [], laidByText := true, laidKinds := [.data, .pinned], laidTests := true, laidLooks := .later }
def FnExactPagerWordUptoCardSaid : Prop := Claim7.holds Tryz.pinned (.plain (OpenSpec.upto fnExactPagerWordSpec)) fnExactPagerWordUptoCard

/-- THE SECOND FORM's CARD OF 'laws.FnExactKernelCall'. -/
def fnExactKernelCallUptoCard : Claim7 := { stood := { row := fnExactKernelCallUptoRow, standIns := [], harness := (true, "6fda4b364b47c979e4cebd9628c9ae5945a4a95e2448365c0576695cee3d8f4d"), looks := false }, kinds := [], alts := [], laidByText := true, laidKinds := [.data, .pinned], laidTests := true, laidLooks := .later }
def FnExactKernelCallUptoCardSaid : Prop := Claim7.holds Tryz.pinned (.plain (OpenSpec.upto fnExactKernelCallSpec)) fnExactKernelCallUptoCard

/-- THE SECOND FORM's CARD OF 'laws.FnExactKernelPlay'. -/
def fnExactKernelPlayUptoCard : Claim7 := { stood := { row := fnExactKernelPlayUptoRow, standIns := [], harness := (true, "6fda4b364b47c979e4cebd9628c9ae5945a4a95e2448365c0576695cee3d8f4d"), looks := false }, kinds := [], alts := [], laidByText := true, laidKinds := [.data, .pinned], laidTests := true, laidLooks := .later }
def FnExactKernelPlayUptoCardSaid : Prop := Claim7.holds Tryz.pinned (.plain (OpenSpec.upto fnExactKernelPlaySpec)) fnExactKernelPlayUptoCard
end Rows
end Go.Proofs.YtfnpjdgjceiklaaGreatDoor
