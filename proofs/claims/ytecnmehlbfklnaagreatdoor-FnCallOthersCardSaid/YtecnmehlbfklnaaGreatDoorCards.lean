/-
  DERIVED. GIVEN WITH THE SEED: THE CARDS: each row of YtecnmehlbfklnaaGreatDoorRows.lean that lists a variable, with what it lists TIED to the program's text (the seventh form; the later family's looks); each row that meets fmt, with fmt's text TOLD by the authors' own Lean function (tested against real Go, not proved from fmt's source: count such statements apart). THE CARD IS WHAT COUNTS. Prove the row's statement (the work); the ties are given (YtecnmehlbfklnaaGreatDoorTie.lean); close each card by the builder's one call (the guide's Derived/Test/ToyasCard.lean, 'card_holds'). Laid BY PROGRAM, IN A SANDBOX (cutbox-door.mjs). By AI agents, Wed Nov 11 2026. No macro, syntax, notation, axiom, sorry.
-/
import Derived.Test.YtecnmehlbfklnaaGreatDoorRows
import GoSem.ClaimSeven
namespace Go.Proofs.YtecnmehlbfklnaaGreatDoor
namespace Rows

/-- THE TIED CARD OF 'laws.FnCall'. -/
def fnCallCard : Claim7 := { stood := { row := fnCallRow, standIns := [], harness := (true, "31504b73d4ad702d95e7ba78a1ea7eef0f80eb7ff8b392f42aad3a3a3091447d"), looks := false }, kinds := [], alts := [], laidByText := true, laidKinds := [.data, .pinned], laidTests := true, laidLooks := .later }
def FnCallCardSaid : Prop := Claim7.holds Tryz.pinned (.plain (OpenSpec.ofChange fnCallSpec)) fnCallCard

/-- THE TIED CARD OF 'laws.FnCallCache'. -/
def fnCallCacheCard : Claim7 := { stood := { row := fnCallCacheRow, standIns := [], harness := (true, "31504b73d4ad702d95e7ba78a1ea7eef0f80eb7ff8b392f42aad3a3a3091447d"), looks := false }, kinds := [], alts := [], laidByText := true, laidKinds := [.data, .pinned], laidTests := true, laidLooks := .later }
def FnCallCacheCardSaid : Prop := Claim7.holds Tryz.pinned (.plain (OpenSpec.ofChange fnCallCacheSpec)) fnCallCacheCard

/-- THE TIED CARD OF 'laws.FnCallInvalid'. -/
def fnCallInvalidCard : Claim7 := { stood := { row := fnCallInvalidRow, standIns := [], harness := (true, "31504b73d4ad702d95e7ba78a1ea7eef0f80eb7ff8b392f42aad3a3a3091447d"), looks := false }, kinds := [], alts := [], laidByText := true, laidKinds := [.data, .pinned], laidTests := true, laidLooks := .later }
def FnCallInvalidCardSaid : Prop := Claim7.holds Tryz.pinned (.plain (OpenSpec.ofChange fnCallInvalidSpec)) fnCallInvalidCard

/-- THE TIED CARD OF 'laws.FnCallOthers'. -/
def fnCallOthersCard : Claim7 := { stood := { row := fnCallOthersRow, standIns := [], harness := (true, "31504b73d4ad702d95e7ba78a1ea7eef0f80eb7ff8b392f42aad3a3a3091447d"), looks := false }, kinds := [], alts := [], laidByText := true, laidKinds := [.data, .pinned], laidTests := true, laidLooks := .later }
def FnCallOthersCardSaid : Prop := Claim7.holds Tryz.pinned (.plain (OpenSpec.ofChange fnCallOthersSpec)) fnCallOthersCard

/-- THE TIED CARD OF 'laws.FnCallPin'. -/
def fnCallPinCard : Claim7 := { stood := { row := fnCallPinRow, standIns := [], harness := (true, "31504b73d4ad702d95e7ba78a1ea7eef0f80eb7ff8b392f42aad3a3a3091447d"), looks := false }, kinds := [], alts := [], laidByText := true, laidKinds := [.data, .pinned], laidTests := true, laidLooks := .later }
def FnCallPinCardSaid : Prop := Claim7.holds Tryz.pinned (.plain (OpenSpec.ofChange fnCallPinSpec)) fnCallPinCard

/-- THE TIED CARD OF 'laws.FnCallRefused'. -/
def fnCallRefusedCard : Claim7 := { stood := { row := fnCallRefusedRow, standIns := [], harness := (true, "31504b73d4ad702d95e7ba78a1ea7eef0f80eb7ff8b392f42aad3a3a3091447d"), looks := false }, kinds := [], alts := [], laidByText := true, laidKinds := [.data, .pinned], laidTests := true, laidLooks := .later }
def FnCallRefusedCardSaid : Prop := Claim7.holds Tryz.pinned (.plain (OpenSpec.ofChange fnCallRefusedSpec)) fnCallRefusedCard

/-- THE TIED CARD OF 'laws.FnGive'. -/
def fnGiveCard : Claim7 := { stood := { row := fnGiveRow, standIns := [], harness := (true, "31504b73d4ad702d95e7ba78a1ea7eef0f80eb7ff8b392f42aad3a3a3091447d"), looks := false }, kinds := [], alts := [], laidByText := true, laidKinds := [.data, .pinned], laidTests := true, laidLooks := .later }
def FnGiveCardSaid : Prop := Claim7.holds Tryz.pinned (.plain (OpenSpec.ofChange fnGiveSpec)) fnGiveCard

/-- THE TIED CARD OF 'laws.FnRoot'. -/
def fnRootCard : Claim7 := { stood := { row := fnRootRow, standIns := [], harness := (true, "31504b73d4ad702d95e7ba78a1ea7eef0f80eb7ff8b392f42aad3a3a3091447d"), looks := false }, kinds := [], alts := [], laidByText := true, laidKinds := [.data, .pinned], laidTests := true, laidLooks := .later }
def FnRootCardSaid : Prop := Claim7.holds Tryz.pinned (.plain (OpenSpec.ofChange fnRootSpec)) fnRootCard

/-- THE TIED CARD OF 'laws.FnCallAlien'. -/
def fnCallAlienCard : Claim7 := { stood := { row := fnCallAlienRow, standIns := [], harness := (true, "31504b73d4ad702d95e7ba78a1ea7eef0f80eb7ff8b392f42aad3a3a3091447d"), looks := false }, kinds := [], alts := [], laidByText := true, laidKinds := [.data, .pinned], laidTests := true, laidLooks := .later }
def FnCallAlienCardSaid : Prop := Claim7.holds Tryz.pinned (.plain (OpenSpec.ofChange fnCallAlienSpec)) fnCallAlienCard

/-- THE TIED CARD OF 'laws.FnGrant'. -/
def fnGrantCard : Claim7 := { stood := { row := fnGrantRow, standIns := [], harness := (true, "31504b73d4ad702d95e7ba78a1ea7eef0f80eb7ff8b392f42aad3a3a3091447d"), looks := false }, kinds := [], alts := [], laidByText := true, laidKinds := [.data, .pinned], laidTests := true, laidLooks := .later }
def FnGrantCardSaid : Prop := Claim7.holds Tryz.pinned (.plain (OpenSpec.ofChange fnGrantSpec)) fnGrantCard

/-- THE SECOND FORM's CARD OF 'laws.FnCall'. -/
def fnCallUptoCard : Claim7 := { stood := { row := fnCallUptoRow, standIns := [], harness := (true, "31504b73d4ad702d95e7ba78a1ea7eef0f80eb7ff8b392f42aad3a3a3091447d"), looks := false }, kinds := [], alts := [], laidByText := true, laidKinds := [.data, .pinned], laidTests := true, laidLooks := .later }
def FnCallUptoCardSaid : Prop := Claim7.holds Tryz.pinned (.plain (OpenSpec.upto fnCallSpec)) fnCallUptoCard

/-- THE SECOND FORM's CARD OF 'laws.FnCallCache'. -/
def fnCallCacheUptoCard : Claim7 := { stood := { row := fnCallCacheUptoRow, standIns := [], harness := (true, "31504b73d4ad702d95e7ba78a1ea7eef0f80eb7ff8b392f42aad3a3a3091447d"), looks := false }, kinds := [], alts := [], laidByText := true, laidKinds := [.data, .pinned], laidTests := true, laidLooks := .later }
def FnCallCacheUptoCardSaid : Prop := Claim7.holds Tryz.pinned (.plain (OpenSpec.upto fnCallCacheSpec)) fnCallCacheUptoCard

/-- THE SECOND FORM's CARD OF 'laws.FnCallInvalid'. -/
def fnCallInvalidUptoCard : Claim7 := { stood := { row := fnCallInvalidUptoRow, standIns := [], harness := (true, "31504b73d4ad702d95e7ba78a1ea7eef0f80eb7ff8b392f42aad3a3a3091447d"), looks := false }, kinds := [], alts := [], laidByText := true, laidKinds := [.data, .pinned], laidTests := true, laidLooks := .later }
def FnCallInvalidUptoCardSaid : Prop := Claim7.holds Tryz.pinned (.plain (OpenSpec.upto fnCallInvalidSpec)) fnCallInvalidUptoCard

/-- THE SECOND FORM's CARD OF 'laws.FnCallOthers'. -/
def fnCallOthersUptoCard : Claim7 := { stood := { row := fnCallOthersUptoRow, standIns := [], harness := (true, "31504b73d4ad702d95e7ba78a1ea7eef0f80eb7ff8b392f42aad3a3a3091447d"), looks := false }, kinds := [], alts := [], laidByText := true, laidKinds := [.data, .pinned], laidTests := true, laidLooks := .later }
def FnCallOthersUptoCardSaid : Prop := Claim7.holds Tryz.pinned (.plain (OpenSpec.upto fnCallOthersSpec)) fnCallOthersUptoCard

/-- THE SECOND FORM's CARD OF 'laws.FnCallPin'. -/
def fnCallPinUptoCard : Claim7 := { stood := { row := fnCallPinUptoRow, standIns := [], harness := (true, "31504b73d4ad702d95e7ba78a1ea7eef0f80eb7ff8b392f42aad3a3a3091447d"), looks := false }, kinds := [], alts := [], laidByText := true, laidKinds := [.data, .pinned], laidTests := true, laidLooks := .later }
def FnCallPinUptoCardSaid : Prop := Claim7.holds Tryz.pinned (.plain (OpenSpec.upto fnCallPinSpec)) fnCallPinUptoCard

/-- THE SECOND FORM's CARD OF 'laws.FnCallRefused'. -/
def fnCallRefusedUptoCard : Claim7 := { stood := { row := fnCallRefusedUptoRow, standIns := [], harness := (true, "31504b73d4ad702d95e7ba78a1ea7eef0f80eb7ff8b392f42aad3a3a3091447d"), looks := false }, kinds := [], alts := [], laidByText := true, laidKinds := [.data, .pinned], laidTests := true, laidLooks := .later }
def FnCallRefusedUptoCardSaid : Prop := Claim7.holds Tryz.pinned (.plain (OpenSpec.upto fnCallRefusedSpec)) fnCallRefusedUptoCard

/-- THE SECOND FORM's CARD OF 'laws.FnGive'. -/
def fnGiveUptoCard : Claim7 := { stood := { row := fnGiveUptoRow, standIns := [], harness := (true, "31504b73d4ad702d95e7ba78a1ea7eef0f80eb7ff8b392f42aad3a3a3091447d"), looks := false }, kinds := [], alts := [], laidByText := true, laidKinds := [.data, .pinned], laidTests := true, laidLooks := .later }
def FnGiveUptoCardSaid : Prop := Claim7.holds Tryz.pinned (.plain (OpenSpec.upto fnGiveSpec)) fnGiveUptoCard

/-- THE SECOND FORM's CARD OF 'laws.FnRoot'. -/
def fnRootUptoCard : Claim7 := { stood := { row := fnRootUptoRow, standIns := [], harness := (true, "31504b73d4ad702d95e7ba78a1ea7eef0f80eb7ff8b392f42aad3a3a3091447d"), looks := false }, kinds := [], alts := [], laidByText := true, laidKinds := [.data, .pinned], laidTests := true, laidLooks := .later }
def FnRootUptoCardSaid : Prop := Claim7.holds Tryz.pinned (.plain (OpenSpec.upto fnRootSpec)) fnRootUptoCard

/-- THE SECOND FORM's CARD OF 'laws.FnCallAlien'. -/
def fnCallAlienUptoCard : Claim7 := { stood := { row := fnCallAlienUptoRow, standIns := [], harness := (true, "31504b73d4ad702d95e7ba78a1ea7eef0f80eb7ff8b392f42aad3a3a3091447d"), looks := false }, kinds := [], alts := [], laidByText := true, laidKinds := [.data, .pinned], laidTests := true, laidLooks := .later }
def FnCallAlienUptoCardSaid : Prop := Claim7.holds Tryz.pinned (.plain (OpenSpec.upto fnCallAlienSpec)) fnCallAlienUptoCard

/-- THE SECOND FORM's CARD OF 'laws.FnGrant'. -/
def fnGrantUptoCard : Claim7 := { stood := { row := fnGrantUptoRow, standIns := [], harness := (true, "31504b73d4ad702d95e7ba78a1ea7eef0f80eb7ff8b392f42aad3a3a3091447d"), looks := false }, kinds := [], alts := [], laidByText := true, laidKinds := [.data, .pinned], laidTests := true, laidLooks := .later }
def FnGrantUptoCardSaid : Prop := Claim7.holds Tryz.pinned (.plain (OpenSpec.upto fnGrantSpec)) fnGrantUptoCard
end Rows
end Go.Proofs.YtecnmehlbfklnaaGreatDoor
