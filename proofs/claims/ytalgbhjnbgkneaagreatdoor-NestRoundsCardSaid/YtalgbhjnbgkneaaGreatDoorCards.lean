/-
  DERIVED. GIVEN WITH THE SEED: THE CARDS: each row of YtalgbhjnbgkneaaGreatDoorRows.lean that lists a variable, with what it lists TIED to the program's text (the seventh form; the later family's looks); each row that meets fmt, with fmt's text TOLD by the authors' own Lean function (tested against real Go, not proved from fmt's source: count such statements apart). THE CARD IS WHAT COUNTS. Prove the row's statement (the work); the ties are given (YtalgbhjnbgkneaaGreatDoorTie.lean); close each card by the builder's one call (the guide's Derived/Test/ToyasCard.lean, 'card_holds'). Laid BY PROGRAM, IN A SANDBOX (cutbox-door.mjs). By AI agents, Wed Nov 11 2026. No macro, syntax, notation, axiom, sorry.
-/
import Derived.Test.YtalgbhjnbgkneaaGreatDoorRows
import GoSem.ClaimSeven
namespace Go.Proofs.YtalgbhjnbgkneaaGreatDoor
namespace Rows

/-- THE TIED CARD OF 'trunnellaw06.NestPlacings'. -/
def nestPlacingsCard : Claim7 := { stood := { row := nestPlacingsRow, standIns := [], harness := (true, "50356dcba32ed55c4617451c5aaf5385d559f24b45e0dc2f44e12789b08e3f2b"), looks := true }, kinds := [], alts := [], laidByText := true, laidKinds := [.data, .data, .data], laidTests := true, laidLooks := .later }
def NestPlacingsCardSaid : Prop := Claim7.holds Tryz.pinned (.plain (OpenSpec.ofChange nestPlacingsSpec)) nestPlacingsCard

/-- THE TIED CARD OF 'trunnellaw06.NestFirsts'. -/
def nestFirstsCard : Claim7 := { stood := { row := nestFirstsRow, standIns := [], harness := (true, "50356dcba32ed55c4617451c5aaf5385d559f24b45e0dc2f44e12789b08e3f2b"), looks := true }, kinds := [], alts := [], laidByText := true, laidKinds := [.data, .data, .data], laidTests := true, laidLooks := .later }
def NestFirstsCardSaid : Prop := Claim7.holds Tryz.pinned (.plain (OpenSpec.ofChange nestFirstsSpec)) nestFirstsCard

/-- THE TIED CARD OF 'trunnellaw06.NestBests'. -/
def nestBestsCard : Claim7 := { stood := { row := nestBestsRow, standIns := [], harness := (true, "50356dcba32ed55c4617451c5aaf5385d559f24b45e0dc2f44e12789b08e3f2b"), looks := true }, kinds := [], alts := [], laidByText := true, laidKinds := [.data, .data, .data], laidTests := true, laidLooks := .later }
def NestBestsCardSaid : Prop := Claim7.holds Tryz.pinned (.plain (OpenSpec.ofChange nestBestsSpec)) nestBestsCard

/-- THE TIED CARD OF 'trunnellaw06.NestBoards'. -/
def nestBoardsCard : Claim7 := { stood := { row := nestBoardsRow, standIns := [], harness := (true, "50356dcba32ed55c4617451c5aaf5385d559f24b45e0dc2f44e12789b08e3f2b"), looks := true }, kinds := [], alts := [], laidByText := true, laidKinds := [.data, .data, .data], laidTests := true, laidLooks := .later }
def NestBoardsCardSaid : Prop := Claim7.holds Tryz.pinned (.plain (OpenSpec.ofChange nestBoardsSpec)) nestBoardsCard

/-- THE TIED CARD OF 'trunnellaw06.NestMatches'. -/
def nestMatchesCard : Claim7 := { stood := { row := nestMatchesRow, standIns := [], harness := (true, "50356dcba32ed55c4617451c5aaf5385d559f24b45e0dc2f44e12789b08e3f2b"), looks := true }, kinds := [], alts := [], laidByText := true, laidKinds := [.data, .data, .data], laidTests := true, laidLooks := .later }
def NestMatchesCardSaid : Prop := Claim7.holds Tryz.pinned (.plain (OpenSpec.ofChange nestMatchesSpec)) nestMatchesCard

/-- THE TIED CARD OF 'trunnellaw06.NestMonotone'. -/
def nestMonotoneCard : Claim7 := { stood := { row := nestMonotoneRow, standIns := [], harness := (true, "50356dcba32ed55c4617451c5aaf5385d559f24b45e0dc2f44e12789b08e3f2b"), looks := true }, kinds := [], alts := [], laidByText := true, laidKinds := [.data, .data, .data], laidTests := true, laidLooks := .later }
def NestMonotoneCardSaid : Prop := Claim7.holds Tryz.pinned (.plain (OpenSpec.ofChange nestMonotoneSpec)) nestMonotoneCard

/-- THE TIED CARD OF 'trunnellaw06.NestAssigns'. -/
def nestAssignsCard : Claim7 := { stood := { row := nestAssignsRow, standIns := [], harness := (true, "50356dcba32ed55c4617451c5aaf5385d559f24b45e0dc2f44e12789b08e3f2b"), looks := true }, kinds := [], alts := [], laidByText := true, laidKinds := [.data, .data, .data], laidTests := true, laidLooks := .later }
def NestAssignsCardSaid : Prop := Claim7.holds Tryz.pinned (.plain (OpenSpec.ofChange nestAssignsSpec)) nestAssignsCard

/-- THE TIED CARD OF 'trunnellaw06.NestLogs'. -/
def nestLogsCard : Claim7 := { stood := { row := nestLogsRow, standIns := [], harness := (true, "50356dcba32ed55c4617451c5aaf5385d559f24b45e0dc2f44e12789b08e3f2b"), looks := true }, kinds := [], alts := [], laidByText := true, laidKinds := [.data, .data, .data], laidTests := true, laidLooks := .later }
def NestLogsCardSaid : Prop := Claim7.holds Tryz.pinned (.plain (OpenSpec.ofChange nestLogsSpec)) nestLogsCard

/-- THE TIED CARD OF 'trunnellaw06.NestRounds'. -/
def nestRoundsCard : Claim7 := { stood := { row := nestRoundsRow, standIns := [], harness := (true, "50356dcba32ed55c4617451c5aaf5385d559f24b45e0dc2f44e12789b08e3f2b"), looks := true }, kinds := [], alts := [], laidByText := true, laidKinds := [.data, .data, .data], laidTests := true, laidLooks := .later }
def NestRoundsCardSaid : Prop := Claim7.holds Tryz.pinned (.plain (OpenSpec.ofChange nestRoundsSpec)) nestRoundsCard

/-- THE TIED CARD OF 'trunnellaw06.NestExcesses'. -/
def nestExcessesCard : Claim7 := { stood := { row := nestExcessesRow, standIns := [], harness := (true, "50356dcba32ed55c4617451c5aaf5385d559f24b45e0dc2f44e12789b08e3f2b"), looks := true }, kinds := [], alts := [], laidByText := true, laidKinds := [.data, .data, .data], laidTests := true, laidLooks := .later }
def NestExcessesCardSaid : Prop := Claim7.holds Tryz.pinned (.plain (OpenSpec.ofChange nestExcessesSpec)) nestExcessesCard

/-- THE TIED CARD OF 'trunnellaw06.NestKerfs'. -/
def nestKerfsCard : Claim7 := { stood := { row := nestKerfsRow, standIns := [], harness := (true, "50356dcba32ed55c4617451c5aaf5385d559f24b45e0dc2f44e12789b08e3f2b"), looks := true }, kinds := [], alts := [], laidByText := true, laidKinds := [.data, .data, .data], laidTests := true, laidLooks := .later }
def NestKerfsCardSaid : Prop := Claim7.holds Tryz.pinned (.plain (OpenSpec.ofChange nestKerfsSpec)) nestKerfsCard

/-- THE TIED CARD OF 'trunnellaw06.NestStocks'. -/
def nestStocksCard : Claim7 := { stood := { row := nestStocksRow, standIns := [], harness := (true, "50356dcba32ed55c4617451c5aaf5385d559f24b45e0dc2f44e12789b08e3f2b"), looks := true }, kinds := [], alts := [], laidByText := true, laidKinds := [.data, .data, .data], laidTests := true, laidLooks := .later }
def NestStocksCardSaid : Prop := Claim7.holds Tryz.pinned (.plain (OpenSpec.ofChange nestStocksSpec)) nestStocksCard

/-- THE TIED CARD OF 'trunnellaw06.NestPrices'. -/
def nestPricesCard : Claim7 := { stood := { row := nestPricesRow, standIns := [], harness := (true, "50356dcba32ed55c4617451c5aaf5385d559f24b45e0dc2f44e12789b08e3f2b"), looks := true }, kinds := [], alts := [], laidByText := true, laidKinds := [.data, .data, .data, .sentinel, .sentinel], laidTests := true, laidLooks := .later }
def NestPricesCardSaid : Prop := Claim7.holds Tryz.pinned (.plain (OpenSpec.ofChange nestPricesSpec)) nestPricesCard

/-- THE TIED CARD OF 'trunnellaw06.NestDuality'. -/
def nestDualityCard : Claim7 := { stood := { row := nestDualityRow, standIns := [], harness := (true, "50356dcba32ed55c4617451c5aaf5385d559f24b45e0dc2f44e12789b08e3f2b"), looks := true }, kinds := [], alts := [], laidByText := true, laidKinds := [.data, .data, .data, .sentinel, .sentinel], laidTests := true, laidLooks := .later }
def NestDualityCardSaid : Prop := Claim7.holds Tryz.pinned (.plain (OpenSpec.ofChange nestDualitySpec)) nestDualityCard

/-- THE SECOND FORM's CARD OF 'trunnellaw06.NestPlacings'. -/
def nestPlacingsUptoCard : Claim7 := { stood := { row := nestPlacingsUptoRow, standIns := [], harness := (true, "50356dcba32ed55c4617451c5aaf5385d559f24b45e0dc2f44e12789b08e3f2b"), looks := true }, kinds := [], alts := [], laidByText := true, laidKinds := [.data, .data, .data], laidTests := true, laidLooks := .later }
def NestPlacingsUptoCardSaid : Prop := Claim7.holds Tryz.pinned (.plain (OpenSpec.upto nestPlacingsSpec)) nestPlacingsUptoCard

/-- THE SECOND FORM's CARD OF 'trunnellaw06.NestFirsts'. -/
def nestFirstsUptoCard : Claim7 := { stood := { row := nestFirstsUptoRow, standIns := [], harness := (true, "50356dcba32ed55c4617451c5aaf5385d559f24b45e0dc2f44e12789b08e3f2b"), looks := true }, kinds := [], alts := [], laidByText := true, laidKinds := [.data, .data, .data], laidTests := true, laidLooks := .later }
def NestFirstsUptoCardSaid : Prop := Claim7.holds Tryz.pinned (.plain (OpenSpec.upto nestFirstsSpec)) nestFirstsUptoCard

/-- THE SECOND FORM's CARD OF 'trunnellaw06.NestBests'. -/
def nestBestsUptoCard : Claim7 := { stood := { row := nestBestsUptoRow, standIns := [], harness := (true, "50356dcba32ed55c4617451c5aaf5385d559f24b45e0dc2f44e12789b08e3f2b"), looks := true }, kinds := [], alts := [], laidByText := true, laidKinds := [.data, .data, .data], laidTests := true, laidLooks := .later }
def NestBestsUptoCardSaid : Prop := Claim7.holds Tryz.pinned (.plain (OpenSpec.upto nestBestsSpec)) nestBestsUptoCard

/-- THE SECOND FORM's CARD OF 'trunnellaw06.NestBoards'. -/
def nestBoardsUptoCard : Claim7 := { stood := { row := nestBoardsUptoRow, standIns := [], harness := (true, "50356dcba32ed55c4617451c5aaf5385d559f24b45e0dc2f44e12789b08e3f2b"), looks := true }, kinds := [], alts := [], laidByText := true, laidKinds := [.data, .data, .data], laidTests := true, laidLooks := .later }
def NestBoardsUptoCardSaid : Prop := Claim7.holds Tryz.pinned (.plain (OpenSpec.upto nestBoardsSpec)) nestBoardsUptoCard

/-- THE SECOND FORM's CARD OF 'trunnellaw06.NestMatches'. -/
def nestMatchesUptoCard : Claim7 := { stood := { row := nestMatchesUptoRow, standIns := [], harness := (true, "50356dcba32ed55c4617451c5aaf5385d559f24b45e0dc2f44e12789b08e3f2b"), looks := true }, kinds := [], alts := [], laidByText := true, laidKinds := [.data, .data, .data], laidTests := true, laidLooks := .later }
def NestMatchesUptoCardSaid : Prop := Claim7.holds Tryz.pinned (.plain (OpenSpec.upto nestMatchesSpec)) nestMatchesUptoCard

/-- THE SECOND FORM's CARD OF 'trunnellaw06.NestMonotone'. -/
def nestMonotoneUptoCard : Claim7 := { stood := { row := nestMonotoneUptoRow, standIns := [], harness := (true, "50356dcba32ed55c4617451c5aaf5385d559f24b45e0dc2f44e12789b08e3f2b"), looks := true }, kinds := [], alts := [], laidByText := true, laidKinds := [.data, .data, .data], laidTests := true, laidLooks := .later }
def NestMonotoneUptoCardSaid : Prop := Claim7.holds Tryz.pinned (.plain (OpenSpec.upto nestMonotoneSpec)) nestMonotoneUptoCard

/-- THE SECOND FORM's CARD OF 'trunnellaw06.NestAssigns'. -/
def nestAssignsUptoCard : Claim7 := { stood := { row := nestAssignsUptoRow, standIns := [], harness := (true, "50356dcba32ed55c4617451c5aaf5385d559f24b45e0dc2f44e12789b08e3f2b"), looks := true }, kinds := [], alts := [], laidByText := true, laidKinds := [.data, .data, .data], laidTests := true, laidLooks := .later }
def NestAssignsUptoCardSaid : Prop := Claim7.holds Tryz.pinned (.plain (OpenSpec.upto nestAssignsSpec)) nestAssignsUptoCard

/-- THE SECOND FORM's CARD OF 'trunnellaw06.NestLogs'. -/
def nestLogsUptoCard : Claim7 := { stood := { row := nestLogsUptoRow, standIns := [], harness := (true, "50356dcba32ed55c4617451c5aaf5385d559f24b45e0dc2f44e12789b08e3f2b"), looks := true }, kinds := [], alts := [], laidByText := true, laidKinds := [.data, .data, .data], laidTests := true, laidLooks := .later }
def NestLogsUptoCardSaid : Prop := Claim7.holds Tryz.pinned (.plain (OpenSpec.upto nestLogsSpec)) nestLogsUptoCard

/-- THE SECOND FORM's CARD OF 'trunnellaw06.NestRounds'. -/
def nestRoundsUptoCard : Claim7 := { stood := { row := nestRoundsUptoRow, standIns := [], harness := (true, "50356dcba32ed55c4617451c5aaf5385d559f24b45e0dc2f44e12789b08e3f2b"), looks := true }, kinds := [], alts := [], laidByText := true, laidKinds := [.data, .data, .data], laidTests := true, laidLooks := .later }
def NestRoundsUptoCardSaid : Prop := Claim7.holds Tryz.pinned (.plain (OpenSpec.upto nestRoundsSpec)) nestRoundsUptoCard

/-- THE SECOND FORM's CARD OF 'trunnellaw06.NestExcesses'. -/
def nestExcessesUptoCard : Claim7 := { stood := { row := nestExcessesUptoRow, standIns := [], harness := (true, "50356dcba32ed55c4617451c5aaf5385d559f24b45e0dc2f44e12789b08e3f2b"), looks := true }, kinds := [], alts := [], laidByText := true, laidKinds := [.data, .data, .data], laidTests := true, laidLooks := .later }
def NestExcessesUptoCardSaid : Prop := Claim7.holds Tryz.pinned (.plain (OpenSpec.upto nestExcessesSpec)) nestExcessesUptoCard

/-- THE SECOND FORM's CARD OF 'trunnellaw06.NestKerfs'. -/
def nestKerfsUptoCard : Claim7 := { stood := { row := nestKerfsUptoRow, standIns := [], harness := (true, "50356dcba32ed55c4617451c5aaf5385d559f24b45e0dc2f44e12789b08e3f2b"), looks := true }, kinds := [], alts := [], laidByText := true, laidKinds := [.data, .data, .data], laidTests := true, laidLooks := .later }
def NestKerfsUptoCardSaid : Prop := Claim7.holds Tryz.pinned (.plain (OpenSpec.upto nestKerfsSpec)) nestKerfsUptoCard

/-- THE SECOND FORM's CARD OF 'trunnellaw06.NestStocks'. -/
def nestStocksUptoCard : Claim7 := { stood := { row := nestStocksUptoRow, standIns := [], harness := (true, "50356dcba32ed55c4617451c5aaf5385d559f24b45e0dc2f44e12789b08e3f2b"), looks := true }, kinds := [], alts := [], laidByText := true, laidKinds := [.data, .data, .data], laidTests := true, laidLooks := .later }
def NestStocksUptoCardSaid : Prop := Claim7.holds Tryz.pinned (.plain (OpenSpec.upto nestStocksSpec)) nestStocksUptoCard

/-- THE SECOND FORM's CARD OF 'trunnellaw06.NestPrices'. -/
def nestPricesUptoCard : Claim7 := { stood := { row := nestPricesUptoRow, standIns := [], harness := (true, "50356dcba32ed55c4617451c5aaf5385d559f24b45e0dc2f44e12789b08e3f2b"), looks := true }, kinds := [], alts := [], laidByText := true, laidKinds := [.data, .data, .data, .sentinel, .sentinel], laidTests := true, laidLooks := .later }
def NestPricesUptoCardSaid : Prop := Claim7.holds Tryz.pinned (.plain (OpenSpec.upto nestPricesSpec)) nestPricesUptoCard

/-- THE SECOND FORM's CARD OF 'trunnellaw06.NestDuality'. -/
def nestDualityUptoCard : Claim7 := { stood := { row := nestDualityUptoRow, standIns := [], harness := (true, "50356dcba32ed55c4617451c5aaf5385d559f24b45e0dc2f44e12789b08e3f2b"), looks := true }, kinds := [], alts := [], laidByText := true, laidKinds := [.data, .data, .data, .sentinel, .sentinel], laidTests := true, laidLooks := .later }
def NestDualityUptoCardSaid : Prop := Claim7.holds Tryz.pinned (.plain (OpenSpec.upto nestDualitySpec)) nestDualityUptoCard
end Rows
end Go.Proofs.YtalgbhjnbgkneaaGreatDoor
