/-
  DERIVED. GIVEN WITH THE SEED: THE CARDS: each row of YtmmjmckajcfffaaGreatDoorRows.lean that lists a variable, with what it lists TIED to the program's text (the seventh form; the later family's looks); each row that meets fmt, with fmt's text TOLD by the authors' own Lean function (tested against real Go, not proved from fmt's source: count such statements apart). THE CARD IS WHAT COUNTS. Prove the row's statement (the work); the ties are given (YtmmjmckajcfffaaGreatDoorTie.lean); close each card by the builder's one call (the guide's Derived/Test/ToyasCard.lean, 'card_holds'). Laid BY PROGRAM, IN A SANDBOX (cutbox-door.mjs). By AI agents, Wed Nov 11 2026. No macro, syntax, notation, axiom, sorry.
-/
import Derived.Test.YtmmjmckajcfffaaGreatDoorRows
import GoSem.ClaimSeven
namespace Go.Proofs.YtmmjmckajcfffaaGreatDoor
namespace Rows

/-- THE TIED CARD OF 'laws.FnCallAlien'. -/
def fnCallAlienCard : Claim7 := { stood := { row := fnCallAlienRow, standIns := [], harness := (true, "5e1cb71156421046fb3fac7294326f8c1022264b4668c420dfa482eee28a56c0"), looks := false }, kinds := [], alts := [], laidByText := true, laidKinds := [.data, .pinned], laidTests := true, laidLooks := .later }
def FnCallAlienCardSaid : Prop := Claim7.holds Tryz.pinned (.plain (OpenSpec.ofChange fnCallAlienSpec)) fnCallAlienCard

/-- THE TIED CARD OF 'laws.FnTake'. -/
def fnTakeCard : Claim7 := { stood := { row := fnTakeRow, standIns := [], harness := (true, "5e1cb71156421046fb3fac7294326f8c1022264b4668c420dfa482eee28a56c0"), looks := false }, kinds := [], alts := [], laidByText := true, laidKinds := [.data, .pinned], laidTests := true, laidLooks := .later }
def FnTakeCardSaid : Prop := Claim7.holds Tryz.pinned (.plain (OpenSpec.ofChange fnTakeSpec)) fnTakeCard

/-- THE TIED CARD OF 'laws.FnTakeRefused'. -/
def fnTakeRefusedCard : Claim7 := { stood := { row := fnTakeRefusedRow, standIns := [], harness := (true, "5e1cb71156421046fb3fac7294326f8c1022264b4668c420dfa482eee28a56c0"), looks := false }, kinds := [], alts := [], laidByText := true, laidKinds := [.data, .pinned], laidTests := true, laidLooks := .later }
def FnTakeRefusedCardSaid : Prop := Claim7.holds Tryz.pinned (.plain (OpenSpec.ofChange fnTakeRefusedSpec)) fnTakeRefusedCard

/-- THE TIED CARD OF 'laws.FnPoke'. -/
def fnPokeCard : Claim7 := { stood := { row := fnPokeRow, standIns := [], harness := (true, "5e1cb71156421046fb3fac7294326f8c1022264b4668c420dfa482eee28a56c0"), looks := false }, kinds := [], alts := [], laidByText := true, laidKinds := [.data, .pinned], laidTests := true, laidLooks := .later }
def FnPokeCardSaid : Prop := Claim7.holds Tryz.pinned (.plain (OpenSpec.ofChange fnPokeSpec)) fnPokeCard

/-- THE TIED CARD OF 'laws.FnGrantRevoke'. -/
def fnGrantRevokeCard : Claim7 := { stood := { row := fnGrantRevokeRow, standIns := [], harness := (true, "5e1cb71156421046fb3fac7294326f8c1022264b4668c420dfa482eee28a56c0"), looks := false }, kinds := [], alts := [], laidByText := true, laidKinds := [.data, .pinned], laidTests := true, laidLooks := .later }
def FnGrantRevokeCardSaid : Prop := Claim7.holds Tryz.pinned (.plain (OpenSpec.ofChange fnGrantRevokeSpec)) fnGrantRevokeCard

/-- THE TIED CARD OF 'laws.FnRevoke'. -/
def fnRevokeCard : Claim7 := { stood := { row := fnRevokeRow, standIns := [], harness := (true, "5e1cb71156421046fb3fac7294326f8c1022264b4668c420dfa482eee28a56c0"), looks := false }, kinds := [], alts := [], laidByText := true, laidKinds := [.data, .pinned], laidTests := true, laidLooks := .later }
def FnRevokeCardSaid : Prop := Claim7.holds Tryz.pinned (.plain (OpenSpec.ofChange fnRevokeSpec)) fnRevokeCard

/-- THE TIED CARD OF 'laws.FnLoad'. -/
def fnLoadCard : Claim7 := { stood := { row := fnLoadRow, standIns := [], harness := (true, "5e1cb71156421046fb3fac7294326f8c1022264b4668c420dfa482eee28a56c0"), looks := false }, kinds := [], alts := [], laidByText := true, laidKinds := [.data, .pinned], laidTests := true, laidLooks := .later }
def FnLoadCardSaid : Prop := Claim7.holds Tryz.pinned (.plain (OpenSpec.ofChange fnLoadSpec)) fnLoadCard

/-- THE TIED CARD OF 'laws.FnLoadCache'. -/
def fnLoadCacheCard : Claim7 := { stood := { row := fnLoadCacheRow, standIns := [], harness := (true, "5e1cb71156421046fb3fac7294326f8c1022264b4668c420dfa482eee28a56c0"), looks := false }, kinds := [], alts := [], laidByText := true, laidKinds := [.data, .pinned], laidTests := true, laidLooks := .later }
def FnLoadCacheCardSaid : Prop := Claim7.holds Tryz.pinned (.plain (OpenSpec.ofChange fnLoadCacheSpec)) fnLoadCacheCard

/-- THE TIED CARD OF 'laws.FnSet'. -/
def fnSetCard : Claim7 := { stood := { row := fnSetRow, standIns := [], harness := (true, "5e1cb71156421046fb3fac7294326f8c1022264b4668c420dfa482eee28a56c0"), looks := false }, kinds := [], alts := [], laidByText := true, laidKinds := [.data, .pinned], laidTests := true, laidLooks := .later }
def FnSetCardSaid : Prop := Claim7.holds Tryz.pinned (.plain (OpenSpec.ofChange fnSetSpec)) fnSetCard

/-- THE TIED CARD OF 'laws.FnSetRights'. -/
def fnSetRightsCard : Claim7 := { stood := { row := fnSetRightsRow, standIns := [], harness := (true, "5e1cb71156421046fb3fac7294326f8c1022264b4668c420dfa482eee28a56c0"), looks := false }, kinds := [], alts := [], laidByText := true, laidKinds := [.data, .pinned], laidTests := true, laidLooks := .later }
def FnSetRightsCardSaid : Prop := Claim7.holds Tryz.pinned (.plain (OpenSpec.ofChange fnSetRightsSpec)) fnSetRightsCard

/-- THE TIED CARD OF 'laws.FnStore'. -/
def fnStoreCard : Claim7 := { stood := { row := fnStoreRow, standIns := [], harness := (true, "5e1cb71156421046fb3fac7294326f8c1022264b4668c420dfa482eee28a56c0"), looks := false }, kinds := [], alts := [], laidByText := true, laidKinds := [.data, .pinned], laidTests := true, laidLooks := .later }
def FnStoreCardSaid : Prop := Claim7.holds Tryz.pinned (.plain (OpenSpec.ofChange fnStoreSpec)) fnStoreCard

/-- THE TIED CARD OF 'laws.FnStoreRefused'. -/
def fnStoreRefusedCard : Claim7 := { stood := { row := fnStoreRefusedRow, standIns := [], harness := (true, "5e1cb71156421046fb3fac7294326f8c1022264b4668c420dfa482eee28a56c0"), looks := false }, kinds := [], alts := [], laidByText := true, laidKinds := [.data, .pinned], laidTests := true, laidLooks := .later }
def FnStoreRefusedCardSaid : Prop := Claim7.holds Tryz.pinned (.plain (OpenSpec.ofChange fnStoreRefusedSpec)) fnStoreRefusedCard

/-- THE SECOND FORM's CARD OF 'laws.FnCallAlien'. -/
def fnCallAlienUptoCard : Claim7 := { stood := { row := fnCallAlienUptoRow, standIns := [], harness := (true, "5e1cb71156421046fb3fac7294326f8c1022264b4668c420dfa482eee28a56c0"), looks := false }, kinds := [], alts := [], laidByText := true, laidKinds := [.data, .pinned], laidTests := true, laidLooks := .later }
def FnCallAlienUptoCardSaid : Prop := Claim7.holds Tryz.pinned (.plain (OpenSpec.upto fnCallAlienSpec)) fnCallAlienUptoCard

/-- THE SECOND FORM's CARD OF 'laws.FnTake'. -/
def fnTakeUptoCard : Claim7 := { stood := { row := fnTakeUptoRow, standIns := [], harness := (true, "5e1cb71156421046fb3fac7294326f8c1022264b4668c420dfa482eee28a56c0"), looks := false }, kinds := [], alts := [], laidByText := true, laidKinds := [.data, .pinned], laidTests := true, laidLooks := .later }
def FnTakeUptoCardSaid : Prop := Claim7.holds Tryz.pinned (.plain (OpenSpec.upto fnTakeSpec)) fnTakeUptoCard

/-- THE SECOND FORM's CARD OF 'laws.FnTakeRefused'. -/
def fnTakeRefusedUptoCard : Claim7 := { stood := { row := fnTakeRefusedUptoRow, standIns := [], harness := (true, "5e1cb71156421046fb3fac7294326f8c1022264b4668c420dfa482eee28a56c0"), looks := false }, kinds := [], alts := [], laidByText := true, laidKinds := [.data, .pinned], laidTests := true, laidLooks := .later }
def FnTakeRefusedUptoCardSaid : Prop := Claim7.holds Tryz.pinned (.plain (OpenSpec.upto fnTakeRefusedSpec)) fnTakeRefusedUptoCard

/-- THE SECOND FORM's CARD OF 'laws.FnPoke'. -/
def fnPokeUptoCard : Claim7 := { stood := { row := fnPokeUptoRow, standIns := [], harness := (true, "5e1cb71156421046fb3fac7294326f8c1022264b4668c420dfa482eee28a56c0"), looks := false }, kinds := [], alts := [], laidByText := true, laidKinds := [.data, .pinned], laidTests := true, laidLooks := .later }
def FnPokeUptoCardSaid : Prop := Claim7.holds Tryz.pinned (.plain (OpenSpec.upto fnPokeSpec)) fnPokeUptoCard

/-- THE SECOND FORM's CARD OF 'laws.FnGrantRevoke'. -/
def fnGrantRevokeUptoCard : Claim7 := { stood := { row := fnGrantRevokeUptoRow, standIns := [], harness := (true, "5e1cb71156421046fb3fac7294326f8c1022264b4668c420dfa482eee28a56c0"), looks := false }, kinds := [], alts := [], laidByText := true, laidKinds := [.data, .pinned], laidTests := true, laidLooks := .later }
def FnGrantRevokeUptoCardSaid : Prop := Claim7.holds Tryz.pinned (.plain (OpenSpec.upto fnGrantRevokeSpec)) fnGrantRevokeUptoCard

/-- THE SECOND FORM's CARD OF 'laws.FnRevoke'. -/
def fnRevokeUptoCard : Claim7 := { stood := { row := fnRevokeUptoRow, standIns := [], harness := (true, "5e1cb71156421046fb3fac7294326f8c1022264b4668c420dfa482eee28a56c0"), looks := false }, kinds := [], alts := [], laidByText := true, laidKinds := [.data, .pinned], laidTests := true, laidLooks := .later }
def FnRevokeUptoCardSaid : Prop := Claim7.holds Tryz.pinned (.plain (OpenSpec.upto fnRevokeSpec)) fnRevokeUptoCard

/-- THE SECOND FORM's CARD OF 'laws.FnLoad'. -/
def fnLoadUptoCard : Claim7 := { stood := { row := fnLoadUptoRow, standIns := [], harness := (true, "5e1cb71156421046fb3fac7294326f8c1022264b4668c420dfa482eee28a56c0"), looks := false }, kinds := [], alts := [], laidByText := true, laidKinds := [.data, .pinned], laidTests := true, laidLooks := .later }
def FnLoadUptoCardSaid : Prop := Claim7.holds Tryz.pinned (.plain (OpenSpec.upto fnLoadSpec)) fnLoadUptoCard

/-- THE SECOND FORM's CARD OF 'laws.FnLoadCache'. -/
def fnLoadCacheUptoCard : Claim7 := { stood := { row := fnLoadCacheUptoRow, standIns := [], harness := (true, "5e1cb71156421046fb3fac7294326f8c1022264b4668c420dfa482eee28a56c0"), looks := false }, kinds := [], alts := [], laidByText := true, laidKinds := [.data, .pinned], laidTests := true, laidLooks := .later }
def FnLoadCacheUptoCardSaid : Prop := Claim7.holds Tryz.pinned (.plain (OpenSpec.upto fnLoadCacheSpec)) fnLoadCacheUptoCard

/-- THE SECOND FORM's CARD OF 'laws.FnSet'. -/
def fnSetUptoCard : Claim7 := { stood := { row := fnSetUptoRow, standIns := [], harness := (true, "5e1cb71156421046fb3fac7294326f8c1022264b4668c420dfa482eee28a56c0"), looks := false }, kinds := [], alts := [], laidByText := true, laidKinds := [.data, .pinned], laidTests := true, laidLooks := .later }
def FnSetUptoCardSaid : Prop := Claim7.holds Tryz.pinned (.plain (OpenSpec.upto fnSetSpec)) fnSetUptoCard

/-- THE SECOND FORM's CARD OF 'laws.FnSetRights'. -/
def fnSetRightsUptoCard : Claim7 := { stood := { row := fnSetRightsUptoRow, standIns := [], harness := (true, "5e1cb71156421046fb3fac7294326f8c1022264b4668c420dfa482eee28a56c0"), looks := false }, kinds := [], alts := [], laidByText := true, laidKinds := [.data, .pinned], laidTests := true, laidLooks := .later }
def FnSetRightsUptoCardSaid : Prop := Claim7.holds Tryz.pinned (.plain (OpenSpec.upto fnSetRightsSpec)) fnSetRightsUptoCard

/-- THE SECOND FORM's CARD OF 'laws.FnStore'. -/
def fnStoreUptoCard : Claim7 := { stood := { row := fnStoreUptoRow, standIns := [], harness := (true, "5e1cb71156421046fb3fac7294326f8c1022264b4668c420dfa482eee28a56c0"), looks := false }, kinds := [], alts := [], laidByText := true, laidKinds := [.data, .pinned], laidTests := true, laidLooks := .later }
def FnStoreUptoCardSaid : Prop := Claim7.holds Tryz.pinned (.plain (OpenSpec.upto fnStoreSpec)) fnStoreUptoCard

/-- THE SECOND FORM's CARD OF 'laws.FnStoreRefused'. -/
def fnStoreRefusedUptoCard : Claim7 := { stood := { row := fnStoreRefusedUptoRow, standIns := [], harness := (true, "5e1cb71156421046fb3fac7294326f8c1022264b4668c420dfa482eee28a56c0"), looks := false }, kinds := [], alts := [], laidByText := true, laidKinds := [.data, .pinned], laidTests := true, laidLooks := .later }
def FnStoreRefusedUptoCardSaid : Prop := Claim7.holds Tryz.pinned (.plain (OpenSpec.upto fnStoreRefusedSpec)) fnStoreRefusedUptoCard
end Rows
end Go.Proofs.YtmmjmckajcfffaaGreatDoor
