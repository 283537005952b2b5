/-
  DERIVED. GIVEN WITH THE SEED: THE CARDS: each row of YtliebkfligagnaaGreatDoorRows.lean that lists a variable, with what it lists TIED to the program's text (the seventh form; the later family's looks); each row that meets fmt, with fmt's text TOLD by the authors' own Lean function (tested against real Go, not proved from fmt's source: count such statements apart). THE CARD IS WHAT COUNTS. Prove the row's statement (the work); the ties are given (YtliebkfligagnaaGreatDoorTie.lean); close each card by the builder's one call (the guide's Derived/Test/ToyasCard.lean, 'card_holds'). Laid BY PROGRAM, IN A SANDBOX (cutbox-door.mjs). By AI agents, Wed Nov 11 2026. No macro, syntax, notation, axiom, sorry.
-/
import Derived.Test.YtliebkfligagnaaGreatDoorRows
import GoSem.ClaimSeven
namespace Go.Proofs.YtliebkfligagnaaGreatDoor
namespace Rows

/-- THE TIED CARD OF 'laws.FnExactKernelCall'. -/
def fnExactKernelCallCard : Claim7 := { stood := { row := fnExactKernelCallRow, standIns := [], harness := (true, "1f6b23e2da23c6348507307158b2d26276e8f2b42da331933a64cc6a1f193f9d"), looks := false }, kinds := [], alts := [], laidByText := true, laidKinds := [.data, .pinned], laidTests := true, laidLooks := .later }
def FnExactKernelCallCardSaid : Prop := Claim7.holds Tryz.pinned (.plain (OpenSpec.ofChange fnExactKernelCallSpec)) fnExactKernelCallCard

/-- THE TIED CARD OF 'laws.FnExactKernelPlay'. -/
def fnExactKernelPlayCard : Claim7 := { stood := { row := fnExactKernelPlayRow, standIns := [], harness := (true, "1f6b23e2da23c6348507307158b2d26276e8f2b42da331933a64cc6a1f193f9d"), looks := false }, kinds := [], alts := [], laidByText := true, laidKinds := [.data, .pinned], laidTests := true, laidLooks := .later }
def FnExactKernelPlayCardSaid : Prop := Claim7.holds Tryz.pinned (.plain (OpenSpec.ofChange fnExactKernelPlaySpec)) fnExactKernelPlayCard

/-- THE TIED CARD OF 'laws.FnSeesNone'. -/
def fnSeesNoneCard : Claim7 := { stood := { row := fnSeesNoneRow, standIns := [], harness := (true, "1f6b23e2da23c6348507307158b2d26276e8f2b42da331933a64cc6a1f193f9d"), looks := false }, kinds := [], alts := [], laidByText := true, laidKinds := [.data, .pinned], laidTests := true, laidLooks := .later }
def FnSeesNoneCardSaid : Prop := Claim7.holds Tryz.pinned (.plain (OpenSpec.ofChange fnSeesNoneSpec)) fnSeesNoneCard

/-- THE TIED CARD OF 'laws.FnSees'. -/
def fnSeesCard : Claim7 := { stood := { row := fnSeesRow, standIns := [], harness := (true, "1f6b23e2da23c6348507307158b2d26276e8f2b42da331933a64cc6a1f193f9d"), looks := false }, kinds := [], alts := [], laidByText := true, laidKinds := [.data, .pinned], laidTests := true, laidLooks := .later }
def FnSeesCardSaid : Prop := Claim7.holds Tryz.pinned (.plain (OpenSpec.ofChange fnSeesSpec)) fnSeesCard

/-- THE TIED CARD OF 'laws.FnCall'. -/
def fnCallCard : Claim7 := { stood := { row := fnCallRow, standIns := [], harness := (true, "1f6b23e2da23c6348507307158b2d26276e8f2b42da331933a64cc6a1f193f9d"), looks := false }, kinds := [], alts := [], laidByText := true, laidKinds := [.data, .pinned], laidTests := true, laidLooks := .later }
def FnCallCardSaid : Prop := Claim7.holds Tryz.pinned (.plain (OpenSpec.ofChange fnCallSpec)) fnCallCard

/-- THE SECOND FORM's CARD OF 'laws.FnExactKernelCall'. -/
def fnExactKernelCallUptoCard : Claim7 := { stood := { row := fnExactKernelCallUptoRow, standIns := [], harness := (true, "1f6b23e2da23c6348507307158b2d26276e8f2b42da331933a64cc6a1f193f9d"), looks := false }, kinds := [], alts := [], laidByText := true, laidKinds := [.data, .pinned], laidTests := true, laidLooks := .later }
def FnExactKernelCallUptoCardSaid : Prop := Claim7.holds Tryz.pinned (.plain (OpenSpec.upto fnExactKernelCallSpec)) fnExactKernelCallUptoCard

/-- THE SECOND FORM's CARD OF 'laws.FnExactKernelPlay'. -/
def fnExactKernelPlayUptoCard : Claim7 := { stood := { row := fnExactKernelPlayUptoRow, standIns := [], harness := (true, "1f6b23e2da23c6348507307158b2d26276e8f2b42da331933a64cc6a1f193f9d"), looks := false }, kinds := [], alts := [], laidByText := true, laidKinds := [.data, .pinned], laidTests := true, laidLooks := .later }
def FnExactKernelPlayUptoCardSaid : Prop := Claim7.holds Tryz.pinned (.plain (OpenSpec.upto fnExactKernelPlaySpec)) fnExactKernelPlayUptoCard

/-- THE SECOND FORM's CARD OF 'laws.FnSeesNone'. -/
def fnSeesNoneUptoCard : Claim7 := { stood := { row := fnSeesNoneUptoRow, standIns := [], harness := (true, "1f6b23e2da23c6348507307158b2d26276e8f2b42da331933a64cc6a1f193f9d"), looks := false }, kinds := [], alts := [], laidByText := true, laidKinds := [.data, .pinned], laidTests := true, laidLooks := .later }
def FnSeesNoneUptoCardSaid : Prop := Claim7.holds Tryz.pinned (.plain (OpenSpec.upto fnSeesNoneSpec)) fnSeesNoneUptoCard

/-- THE SECOND FORM's CARD OF 'laws.FnSees'. -/
def fnSeesUptoCard : Claim7 := { stood := { row := fnSeesUptoRow, standIns := [], harness := (true, "1f6b23e2da23c6348507307158b2d26276e8f2b42da331933a64cc6a1f193f9d"), looks := false }, kinds := [], alts := [], laidByText := true, laidKinds := [.data, .pinned], laidTests := true, laidLooks := .later }
def FnSeesUptoCardSaid : Prop := Claim7.holds Tryz.pinned (.plain (OpenSpec.upto fnSeesSpec)) fnSeesUptoCard

/-- THE SECOND FORM's CARD OF 'laws.FnCall'. -/
def fnCallUptoCard : Claim7 := { stood := { row := fnCallUptoRow, standIns := [], harness := (true, "1f6b23e2da23c6348507307158b2d26276e8f2b42da331933a64cc6a1f193f9d"), looks := false }, kinds := [], alts := [], laidByText := true, laidKinds := [.data, .pinned], laidTests := true, laidLooks := .later }
def FnCallUptoCardSaid : Prop := Claim7.holds Tryz.pinned (.plain (OpenSpec.upto fnCallSpec)) fnCallUptoCard
end Rows
end Go.Proofs.YtliebkfligagnaaGreatDoor
