/-
  DERIVED. GIVEN WITH THE SEED: THE CARDS: each row of YtenebmeaoidnoaaGreatDoorRows.lean that lists a variable, with what it lists TIED to the program's text (the seventh form; the later family's looks); each row that meets fmt, with fmt's text TOLD by the authors' own Lean function (tested against real Go, not proved from fmt's source: count such statements apart). THE CARD IS WHAT COUNTS. Prove the row's statement (the work); the ties are given (YtenebmeaoidnoaaGreatDoorTie.lean); close each card by the builder's one call (the guide's Derived/Test/ToyasCard.lean, 'card_holds'). Laid BY PROGRAM, IN A SANDBOX (cutbox-door.mjs). By AI agents, Wed Nov 11 2026. No macro, syntax, notation, axiom, sorry.
-/
import Derived.Test.YtenebmeaoidnoaaGreatDoorRows
import GoSem.ClaimSeven
namespace Go.Proofs.YtenebmeaoidnoaaGreatDoor
namespace Rows

/-- THE TIED CARD OF 'laws.FnKernelForget'. -/
def fnKernelForgetCard : Claim7 := { stood := { row := fnKernelForgetRow, standIns := [], harness := (true, "2ecb142706398d142af13f9e75db99c5cf5bb8de3cd95393a167cc055a390b46"), looks := false }, kinds := [], alts := [], laidByText := true, laidKinds := [.data, .pinned], laidTests := true, laidLooks := .later }
def FnKernelForgetCardSaid : Prop := Claim7.holds Tryz.pinned (.plain (OpenSpec.ofChange fnKernelForgetSpec)) fnKernelForgetCard

/-- THE TIED CARD OF 'laws.FnKernelCache'. -/
def fnKernelCacheCard : Claim7 := { stood := { row := fnKernelCacheRow, standIns := [], harness := (true, "2ecb142706398d142af13f9e75db99c5cf5bb8de3cd95393a167cc055a390b46"), looks := false }, kinds := [], alts := [], laidByText := true, laidKinds := [.data, .pinned], laidTests := true, laidLooks := .later }
def FnKernelCacheCardSaid : Prop := Claim7.holds Tryz.pinned (.plain (OpenSpec.ofChange fnKernelCacheSpec)) fnKernelCacheCard

/-- THE TIED CARD OF 'laws.FnKernelRefs'. -/
def fnKernelRefsCard : Claim7 := { stood := { row := fnKernelRefsRow, standIns := [], harness := (true, "2ecb142706398d142af13f9e75db99c5cf5bb8de3cd95393a167cc055a390b46"), looks := false }, kinds := [], alts := [], laidByText := true, laidKinds := [.data, .pinned], laidTests := true, laidLooks := .later }
def FnKernelRefsCardSaid : Prop := Claim7.holds Tryz.pinned (.plain (OpenSpec.ofChange fnKernelRefsSpec)) fnKernelRefsCard

/-- THE TIED CARD OF 'laws.FnKernelRights'. -/
def fnKernelRightsCard : Claim7 := { stood := { row := fnKernelRightsRow, standIns := [], harness := (true, "2ecb142706398d142af13f9e75db99c5cf5bb8de3cd95393a167cc055a390b46"), looks := false }, kinds := [], alts := [], laidByText := true, laidKinds := [.data, .pinned], laidTests := true, laidLooks := .later }
def FnKernelRightsCardSaid : Prop := Claim7.holds Tryz.pinned (.plain (OpenSpec.ofChange fnKernelRightsSpec)) fnKernelRightsCard

/-- THE TIED CARD OF 'laws.FnKernelTables'. -/
def fnKernelTablesCard : Claim7 := { stood := { row := fnKernelTablesRow, standIns := [], harness := (true, "2ecb142706398d142af13f9e75db99c5cf5bb8de3cd95393a167cc055a390b46"), looks := false }, kinds := [], alts := [], laidByText := true, laidKinds := [.data, .pinned], laidTests := true, laidLooks := .later }
def FnKernelTablesCardSaid : Prop := Claim7.holds Tryz.pinned (.plain (OpenSpec.ofChange fnKernelTablesSpec)) fnKernelTablesCard

/-- THE TIED CARD OF 'laws.FnSeesNone'. -/
def fnSeesNoneCard : Claim7 := { stood := { row := fnSeesNoneRow, standIns := [], harness := (true, "2ecb142706398d142af13f9e75db99c5cf5bb8de3cd95393a167cc055a390b46"), looks := false }, kinds := [], alts := [], laidByText := true, laidKinds := [.data, .pinned], laidTests := true, laidLooks := .later }
def FnSeesNoneCardSaid : Prop := Claim7.holds Tryz.pinned (.plain (OpenSpec.ofChange fnSeesNoneSpec)) fnSeesNoneCard

/-- THE TIED CARD OF 'laws.FnReach'. -/
def fnReachCard : Claim7 := { stood := { row := fnReachRow, standIns := [], harness := (true, "2ecb142706398d142af13f9e75db99c5cf5bb8de3cd95393a167cc055a390b46"), looks := false }, kinds := [], alts := [], laidByText := true, laidKinds := [.data, .pinned], laidTests := true, laidLooks := .later }
def FnReachCardSaid : Prop := Claim7.holds Tryz.pinned (.plain (OpenSpec.ofChange fnReachSpec)) fnReachCard

/-- THE TIED CARD OF 'laws.FnSees'. -/
def fnSeesCard : Claim7 := { stood := { row := fnSeesRow, standIns := [], harness := (true, "2ecb142706398d142af13f9e75db99c5cf5bb8de3cd95393a167cc055a390b46"), looks := false }, kinds := [], alts := [], laidByText := true, laidKinds := [.data, .pinned], laidTests := true, laidLooks := .later }
def FnSeesCardSaid : Prop := Claim7.holds Tryz.pinned (.plain (OpenSpec.ofChange fnSeesSpec)) fnSeesCard

/-- THE SECOND FORM's CARD OF 'laws.FnKernelForget'. -/
def fnKernelForgetUptoCard : Claim7 := { stood := { row := fnKernelForgetUptoRow, standIns := [], harness := (true, "2ecb142706398d142af13f9e75db99c5cf5bb8de3cd95393a167cc055a390b46"), looks := false }, kinds := [], alts := [], laidByText := true, laidKinds := [.data, .pinned], laidTests := true, laidLooks := .later }
def FnKernelForgetUptoCardSaid : Prop := Claim7.holds Tryz.pinned (.plain (OpenSpec.upto fnKernelForgetSpec)) fnKernelForgetUptoCard

/-- THE SECOND FORM's CARD OF 'laws.FnKernelCache'. -/
def fnKernelCacheUptoCard : Claim7 := { stood := { row := fnKernelCacheUptoRow, standIns := [], harness := (true, "2ecb142706398d142af13f9e75db99c5cf5bb8de3cd95393a167cc055a390b46"), looks := false }, kinds := [], alts := [], laidByText := true, laidKinds := [.data, .pinned], laidTests := true, laidLooks := .later }
def FnKernelCacheUptoCardSaid : Prop := Claim7.holds Tryz.pinned (.plain (OpenSpec.upto fnKernelCacheSpec)) fnKernelCacheUptoCard

/-- THE SECOND FORM's CARD OF 'laws.FnKernelRefs'. -/
def fnKernelRefsUptoCard : Claim7 := { stood := { row := fnKernelRefsUptoRow, standIns := [], harness := (true, "2ecb142706398d142af13f9e75db99c5cf5bb8de3cd95393a167cc055a390b46"), looks := false }, kinds := [], alts := [], laidByText := true, laidKinds := [.data, .pinned], laidTests := true, laidLooks := .later }
def FnKernelRefsUptoCardSaid : Prop := Claim7.holds Tryz.pinned (.plain (OpenSpec.upto fnKernelRefsSpec)) fnKernelRefsUptoCard

/-- THE SECOND FORM's CARD OF 'laws.FnKernelRights'. -/
def fnKernelRightsUptoCard : Claim7 := { stood := { row := fnKernelRightsUptoRow, standIns := [], harness := (true, "2ecb142706398d142af13f9e75db99c5cf5bb8de3cd95393a167cc055a390b46"), looks := false }, kinds := [], alts := [], laidByText := true, laidKinds := [.data, .pinned], laidTests := true, laidLooks := .later }
def FnKernelRightsUptoCardSaid : Prop := Claim7.holds Tryz.pinned (.plain (OpenSpec.upto fnKernelRightsSpec)) fnKernelRightsUptoCard

/-- THE SECOND FORM's CARD OF 'laws.FnKernelTables'. -/
def fnKernelTablesUptoCard : Claim7 := { stood := { row := fnKernelTablesUptoRow, standIns := [], harness := (true, "2ecb142706398d142af13f9e75db99c5cf5bb8de3cd95393a167cc055a390b46"), looks := false }, kinds := [], alts := [], laidByText := true, laidKinds := [.data, .pinned], laidTests := true, laidLooks := .later }
def FnKernelTablesUptoCardSaid : Prop := Claim7.holds Tryz.pinned (.plain (OpenSpec.upto fnKernelTablesSpec)) fnKernelTablesUptoCard

/-- THE SECOND FORM's CARD OF 'laws.FnSeesNone'. -/
def fnSeesNoneUptoCard : Claim7 := { stood := { row := fnSeesNoneUptoRow, standIns := [], harness := (true, "2ecb142706398d142af13f9e75db99c5cf5bb8de3cd95393a167cc055a390b46"), looks := false }, kinds := [], alts := [], laidByText := true, laidKinds := [.data, .pinned], laidTests := true, laidLooks := .later }
def FnSeesNoneUptoCardSaid : Prop := Claim7.holds Tryz.pinned (.plain (OpenSpec.upto fnSeesNoneSpec)) fnSeesNoneUptoCard

/-- THE SECOND FORM's CARD OF 'laws.FnReach'. -/
def fnReachUptoCard : Claim7 := { stood := { row := fnReachUptoRow, standIns := [], harness := (true, "2ecb142706398d142af13f9e75db99c5cf5bb8de3cd95393a167cc055a390b46"), looks := false }, kinds := [], alts := [], laidByText := true, laidKinds := [.data, .pinned], laidTests := true, laidLooks := .later }
def FnReachUptoCardSaid : Prop := Claim7.holds Tryz.pinned (.plain (OpenSpec.upto fnReachSpec)) fnReachUptoCard

/-- THE SECOND FORM's CARD OF 'laws.FnSees'. -/
def fnSeesUptoCard : Claim7 := { stood := { row := fnSeesUptoRow, standIns := [], harness := (true, "2ecb142706398d142af13f9e75db99c5cf5bb8de3cd95393a167cc055a390b46"), looks := false }, kinds := [], alts := [], laidByText := true, laidKinds := [.data, .pinned], laidTests := true, laidLooks := .later }
def FnSeesUptoCardSaid : Prop := Claim7.holds Tryz.pinned (.plain (OpenSpec.upto fnSeesSpec)) fnSeesUptoCard
end Rows
end Go.Proofs.YtenebmeaoidnoaaGreatDoor
