/-
  DERIVED. GIVEN WITH THE SEED: THE CARDS: each row of YtfiiaehhmdddbaaGreatDoorRows.lean that lists a variable, with what it lists TIED to the program's text (the seventh form; the later family's looks); each row that meets fmt, with fmt's text TOLD by the authors' own Lean function (tested against real Go, not proved from fmt's source: count such statements apart). THE CARD IS WHAT COUNTS. Prove the row's statement (the work); the ties are given (YtfiiaehhmdddbaaGreatDoorTie.lean); close each card by the builder's one call (the guide's Derived/Test/ToyasCard.lean, 'card_holds'). Laid BY PROGRAM, IN A SANDBOX (cutbox-door.mjs). By AI agents, Wed Nov 11 2026. No macro, syntax, notation, axiom, sorry.
-/
import Derived.Test.YtfiiaehhmdddbaaGreatDoorRows
import GoSem.ClaimSeven
namespace Go.Proofs.YtfiiaehhmdddbaaGreatDoor
namespace Rows

/-- THE TIED CARD OF 'tabularylaw20.DeskRolls'. -/
def deskRollsCard : Claim7 := { stood := { row := deskRollsRow, standIns := [], harness := (true, "ac6a52e487754f5737a1daf92dc4d93dcb7c09847b1c94b8fbadc8a2e4b47e8a"), looks := true }, kinds := [], alts := [], laidByText := true, laidKinds := [.data, .data, .data, .pinned], laidTests := true, laidLooks := .later }
def DeskRollsCardSaid : Prop := Claim7.holds Tryz.pinned (.plain (OpenSpec.ofChange deskRollsSpec)) deskRollsCard

/-- THE TIED CARD OF 'tabularylaw20.DeskSure'. -/
def deskSureCard : Claim7 := { stood := { row := deskSureRow, standIns := [], harness := (true, "ac6a52e487754f5737a1daf92dc4d93dcb7c09847b1c94b8fbadc8a2e4b47e8a"), looks := true }, kinds := [], alts := [], laidByText := true, laidKinds := [.data, .data, .data, .pinned], laidTests := true, laidLooks := .later }
def DeskSureCardSaid : Prop := Claim7.holds Tryz.pinned (.plain (OpenSpec.ofChange deskSureSpec)) deskSureCard

/-- THE TIED CARD OF 'tabularylaw20.DeskAgain'. -/
def deskAgainCard : Claim7 := { stood := { row := deskAgainRow, standIns := [], harness := (true, "ac6a52e487754f5737a1daf92dc4d93dcb7c09847b1c94b8fbadc8a2e4b47e8a"), looks := true }, kinds := [], alts := [], laidByText := true, laidKinds := [.data, .data, .data, .pinned], laidTests := true, laidLooks := .later }
def DeskAgainCardSaid : Prop := Claim7.holds Tryz.pinned (.plain (OpenSpec.ofChange deskAgainSpec)) deskAgainCard

/-- THE TIED CARD OF 'tabularylaw20.DeskLeaves'. -/
def deskLeavesCard : Claim7 := { stood := { row := deskLeavesRow, standIns := [], harness := (true, "ac6a52e487754f5737a1daf92dc4d93dcb7c09847b1c94b8fbadc8a2e4b47e8a"), looks := true }, kinds := [], alts := [], laidByText := true, laidKinds := [.data, .data, .data, .pinned], laidTests := true, laidLooks := .later }
def DeskLeavesCardSaid : Prop := Claim7.holds Tryz.pinned (.plain (OpenSpec.ofChange deskLeavesSpec)) deskLeavesCard

/-- THE TIED CARD OF 'tabularylaw20.DeskLocks'. -/
def deskLocksCard : Claim7 := { stood := { row := deskLocksRow, standIns := [], harness := (true, "ac6a52e487754f5737a1daf92dc4d93dcb7c09847b1c94b8fbadc8a2e4b47e8a"), looks := true }, kinds := [], alts := [], laidByText := true, laidKinds := [.data, .data, .data, .pinned], laidTests := true, laidLooks := .later }
def DeskLocksCardSaid : Prop := Claim7.holds Tryz.pinned (.plain (OpenSpec.ofChange deskLocksSpec)) deskLocksCard

/-- THE TIED CARD OF 'tabularylaw20.DeskNone'. -/
def deskNoneCard : Claim7 := { stood := { row := deskNoneRow, standIns := [], harness := (true, "ac6a52e487754f5737a1daf92dc4d93dcb7c09847b1c94b8fbadc8a2e4b47e8a"), looks := true }, kinds := [], alts := [], laidByText := true, laidKinds := [.data, .data, .data, .pinned], laidTests := true, laidLooks := .later }
def DeskNoneCardSaid : Prop := Claim7.holds Tryz.pinned (.plain (OpenSpec.ofChange deskNoneSpec)) deskNoneCard

/-- THE TIED CARD OF 'tabularylaw20.DeskRuns'. -/
def deskRunsCard : Claim7 := { stood := { row := deskRunsRow, standIns := [], harness := (true, "ac6a52e487754f5737a1daf92dc4d93dcb7c09847b1c94b8fbadc8a2e4b47e8a"), looks := true }, kinds := [], alts := [], laidByText := true, laidKinds := [.data, .data, .data, .pinned], laidTests := true, laidLooks := .later }
def DeskRunsCardSaid : Prop := Claim7.holds Tryz.pinned (.plain (OpenSpec.ofChange deskRunsSpec)) deskRunsCard

/-- THE TIED CARD OF 'tabularylaw20.DeskLasts'. -/
def deskLastsCard : Claim7 := { stood := { row := deskLastsRow, standIns := [], harness := (true, "ac6a52e487754f5737a1daf92dc4d93dcb7c09847b1c94b8fbadc8a2e4b47e8a"), looks := true }, kinds := [], alts := [], laidByText := true, laidKinds := [.data, .data, .data, .pinned], laidTests := true, laidLooks := .later }
def DeskLastsCardSaid : Prop := Claim7.holds Tryz.pinned (.plain (OpenSpec.ofChange deskLastsSpec)) deskLastsCard

/-- THE SECOND FORM's CARD OF 'tabularylaw20.DeskRolls'. -/
def deskRollsUptoCard : Claim7 := { stood := { row := deskRollsUptoRow, standIns := [], harness := (true, "ac6a52e487754f5737a1daf92dc4d93dcb7c09847b1c94b8fbadc8a2e4b47e8a"), looks := true }, kinds := [], alts := [], laidByText := true, laidKinds := [.data, .data, .data, .pinned], laidTests := true, laidLooks := .later }
def DeskRollsUptoCardSaid : Prop := Claim7.holds Tryz.pinned (.plain (OpenSpec.upto deskRollsSpec)) deskRollsUptoCard

/-- THE SECOND FORM's CARD OF 'tabularylaw20.DeskSure'. -/
def deskSureUptoCard : Claim7 := { stood := { row := deskSureUptoRow, standIns := [], harness := (true, "ac6a52e487754f5737a1daf92dc4d93dcb7c09847b1c94b8fbadc8a2e4b47e8a"), looks := true }, kinds := [], alts := [], laidByText := true, laidKinds := [.data, .data, .data, .pinned], laidTests := true, laidLooks := .later }
def DeskSureUptoCardSaid : Prop := Claim7.holds Tryz.pinned (.plain (OpenSpec.upto deskSureSpec)) deskSureUptoCard

/-- THE SECOND FORM's CARD OF 'tabularylaw20.DeskAgain'. -/
def deskAgainUptoCard : Claim7 := { stood := { row := deskAgainUptoRow, standIns := [], harness := (true, "ac6a52e487754f5737a1daf92dc4d93dcb7c09847b1c94b8fbadc8a2e4b47e8a"), looks := true }, kinds := [], alts := [], laidByText := true, laidKinds := [.data, .data, .data, .pinned], laidTests := true, laidLooks := .later }
def DeskAgainUptoCardSaid : Prop := Claim7.holds Tryz.pinned (.plain (OpenSpec.upto deskAgainSpec)) deskAgainUptoCard

/-- THE SECOND FORM's CARD OF 'tabularylaw20.DeskLeaves'. -/
def deskLeavesUptoCard : Claim7 := { stood := { row := deskLeavesUptoRow, standIns := [], harness := (true, "ac6a52e487754f5737a1daf92dc4d93dcb7c09847b1c94b8fbadc8a2e4b47e8a"), looks := true }, kinds := [], alts := [], laidByText := true, laidKinds := [.data, .data, .data, .pinned], laidTests := true, laidLooks := .later }
def DeskLeavesUptoCardSaid : Prop := Claim7.holds Tryz.pinned (.plain (OpenSpec.upto deskLeavesSpec)) deskLeavesUptoCard

/-- THE SECOND FORM's CARD OF 'tabularylaw20.DeskLocks'. -/
def deskLocksUptoCard : Claim7 := { stood := { row := deskLocksUptoRow, standIns := [], harness := (true, "ac6a52e487754f5737a1daf92dc4d93dcb7c09847b1c94b8fbadc8a2e4b47e8a"), looks := true }, kinds := [], alts := [], laidByText := true, laidKinds := [.data, .data, .data, .pinned], laidTests := true, laidLooks := .later }
def DeskLocksUptoCardSaid : Prop := Claim7.holds Tryz.pinned (.plain (OpenSpec.upto deskLocksSpec)) deskLocksUptoCard

/-- THE SECOND FORM's CARD OF 'tabularylaw20.DeskNone'. -/
def deskNoneUptoCard : Claim7 := { stood := { row := deskNoneUptoRow, standIns := [], harness := (true, "ac6a52e487754f5737a1daf92dc4d93dcb7c09847b1c94b8fbadc8a2e4b47e8a"), looks := true }, kinds := [], alts := [], laidByText := true, laidKinds := [.data, .data, .data, .pinned], laidTests := true, laidLooks := .later }
def DeskNoneUptoCardSaid : Prop := Claim7.holds Tryz.pinned (.plain (OpenSpec.upto deskNoneSpec)) deskNoneUptoCard

/-- THE SECOND FORM's CARD OF 'tabularylaw20.DeskRuns'. -/
def deskRunsUptoCard : Claim7 := { stood := { row := deskRunsUptoRow, standIns := [], harness := (true, "ac6a52e487754f5737a1daf92dc4d93dcb7c09847b1c94b8fbadc8a2e4b47e8a"), looks := true }, kinds := [], alts := [], laidByText := true, laidKinds := [.data, .data, .data, .pinned], laidTests := true, laidLooks := .later }
def DeskRunsUptoCardSaid : Prop := Claim7.holds Tryz.pinned (.plain (OpenSpec.upto deskRunsSpec)) deskRunsUptoCard

/-- THE SECOND FORM's CARD OF 'tabularylaw20.DeskLasts'. -/
def deskLastsUptoCard : Claim7 := { stood := { row := deskLastsUptoRow, standIns := [], harness := (true, "ac6a52e487754f5737a1daf92dc4d93dcb7c09847b1c94b8fbadc8a2e4b47e8a"), looks := true }, kinds := [], alts := [], laidByText := true, laidKinds := [.data, .data, .data, .pinned], laidTests := true, laidLooks := .later }
def DeskLastsUptoCardSaid : Prop := Claim7.holds Tryz.pinned (.plain (OpenSpec.upto deskLastsSpec)) deskLastsUptoCard
end Rows
end Go.Proofs.YtfiiaehhmdddbaaGreatDoor
