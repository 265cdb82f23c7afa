/-
  DERIVED. GIVEN WITH THE SEED: THE CARDS: each row of YtnacifjcjnhgpaaGreatDoorRows.lean that lists a variable, with what it lists TIED to the program's text (the seventh form; the later family's looks); each row that meets fmt, with fmt's text TOLD by the authors' own Lean function (tested against real Go, not proved from fmt's source: count such statements apart). THE CARD IS WHAT COUNTS. Prove the row's statement (the work); the ties are given (YtnacifjcjnhgpaaGreatDoorTie.lean); close each card by the builder's one call (the guide's Derived/Test/ToyasCard.lean, 'card_holds'). Laid BY PROGRAM, IN A SANDBOX (cutbox-door.mjs). By AI agents, Wed Nov 11 2026. No macro, syntax, notation, axiom, sorry.
-/
import Derived.Test.YtnacifjcjnhgpaaGreatDoorRows
import GoSem.ClaimSeven
namespace Go.Proofs.YtnacifjcjnhgpaaGreatDoor
namespace Rows

/-- THE TIED CARD OF 'wainwrightlaw26.DriveFaults'. -/
def driveFaultsCard : Claim7 := { stood := { row := driveFaultsRow, standIns := [], harness := (true, "b57536e429c890eb0efe131a643641463df10259e21664776dd6fc9dd2edc740"), looks := true }, kinds := [], alts := [], laidByText := true, laidKinds := [.data, .data, .data, .data, .handle, .sentinel, .sentinel, .pinned], laidTests := true, laidLooks := .later }
def DriveFaultsCardSaid : Prop := Claim7.holds Tryz.pinned (.plain (OpenSpec.ofChange driveFaultsSpec)) driveFaultsCard

/-- THE TIED CARD OF 'wainwrightlaw26.DriveSecond'. -/
def driveSecondCard : Claim7 := { stood := { row := driveSecondRow, standIns := [], harness := (true, "b57536e429c890eb0efe131a643641463df10259e21664776dd6fc9dd2edc740"), looks := true }, kinds := [], alts := [], laidByText := true, laidKinds := [.data, .data, .data, .data, .handle, .sentinel, .sentinel, .pinned], laidTests := true, laidLooks := .later }
def DriveSecondCardSaid : Prop := Claim7.holds Tryz.pinned (.plain (OpenSpec.ofChange driveSecondSpec)) driveSecondCard

/-- THE TIED CARD OF 'wainwrightlaw26.DriveIncludes'. -/
def driveIncludesCard : Claim7 := { stood := { row := driveIncludesRow, standIns := [], harness := (true, "b57536e429c890eb0efe131a643641463df10259e21664776dd6fc9dd2edc740"), looks := true }, kinds := [], alts := [], laidByText := true, laidKinds := [.data, .data, .data, .data, .handle, .sentinel, .sentinel, .pinned], laidTests := true, laidLooks := .later }
def DriveIncludesCardSaid : Prop := Claim7.holds Tryz.pinned (.plain (OpenSpec.ofChange driveIncludesSpec)) driveIncludesCard

/-- THE TIED CARD OF 'wainwrightlaw26.DriveScopes'. -/
def driveScopesCard : Claim7 := { stood := { row := driveScopesRow, standIns := [], harness := (true, "b57536e429c890eb0efe131a643641463df10259e21664776dd6fc9dd2edc740"), looks := true }, kinds := [], alts := [], laidByText := true, laidKinds := [.data, .data, .data, .data, .handle, .sentinel, .sentinel, .pinned], laidTests := true, laidLooks := .later }
def DriveScopesCardSaid : Prop := Claim7.holds Tryz.pinned (.plain (OpenSpec.ofChange driveScopesSpec)) driveScopesCard

/-- THE SECOND FORM's CARD OF 'wainwrightlaw26.DriveFaults'. -/
def driveFaultsUptoCard : Claim7 := { stood := { row := driveFaultsUptoRow, standIns := [], harness := (true, "b57536e429c890eb0efe131a643641463df10259e21664776dd6fc9dd2edc740"), looks := true }, kinds := [], alts := [], laidByText := true, laidKinds := [.data, .data, .data, .data, .handle, .sentinel, .sentinel, .pinned], laidTests := true, laidLooks := .later }
def DriveFaultsUptoCardSaid : Prop := Claim7.holds Tryz.pinned (.plain (OpenSpec.upto driveFaultsSpec)) driveFaultsUptoCard

/-- THE SECOND FORM's CARD OF 'wainwrightlaw26.DriveSecond'. -/
def driveSecondUptoCard : Claim7 := { stood := { row := driveSecondUptoRow, standIns := [], harness := (true, "b57536e429c890eb0efe131a643641463df10259e21664776dd6fc9dd2edc740"), looks := true }, kinds := [], alts := [], laidByText := true, laidKinds := [.data, .data, .data, .data, .handle, .sentinel, .sentinel, .pinned], laidTests := true, laidLooks := .later }
def DriveSecondUptoCardSaid : Prop := Claim7.holds Tryz.pinned (.plain (OpenSpec.upto driveSecondSpec)) driveSecondUptoCard

/-- THE SECOND FORM's CARD OF 'wainwrightlaw26.DriveIncludes'. -/
def driveIncludesUptoCard : Claim7 := { stood := { row := driveIncludesUptoRow, standIns := [], harness := (true, "b57536e429c890eb0efe131a643641463df10259e21664776dd6fc9dd2edc740"), looks := true }, kinds := [], alts := [], laidByText := true, laidKinds := [.data, .data, .data, .data, .handle, .sentinel, .sentinel, .pinned], laidTests := true, laidLooks := .later }
def DriveIncludesUptoCardSaid : Prop := Claim7.holds Tryz.pinned (.plain (OpenSpec.upto driveIncludesSpec)) driveIncludesUptoCard

/-- THE SECOND FORM's CARD OF 'wainwrightlaw26.DriveScopes'. -/
def driveScopesUptoCard : Claim7 := { stood := { row := driveScopesUptoRow, standIns := [], harness := (true, "b57536e429c890eb0efe131a643641463df10259e21664776dd6fc9dd2edc740"), looks := true }, kinds := [], alts := [], laidByText := true, laidKinds := [.data, .data, .data, .data, .handle, .sentinel, .sentinel, .pinned], laidTests := true, laidLooks := .later }
def DriveScopesUptoCardSaid : Prop := Claim7.holds Tryz.pinned (.plain (OpenSpec.upto driveScopesSpec)) driveScopesUptoCard
end Rows
end Go.Proofs.YtnacifjcjnhgpaaGreatDoor
