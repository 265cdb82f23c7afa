/-
  DERIVED. GIVEN WITH THE SEED: THE CARDS: each row of YthncmdkiljcjnaaGreatDoorRows.lean that lists a variable, with what it lists TIED to the program's text (the seventh form; the later family's looks); each row that meets fmt, with fmt's text TOLD by the authors' own Lean function (tested against real Go, not proved from fmt's source: count such statements apart). THE CARD IS WHAT COUNTS. Prove the row's statement (the work); the ties are given (YthncmdkiljcjnaaGreatDoorTie.lean); close each card by the builder's one call (the guide's Derived/Test/ToyasCard.lean, 'card_holds'). Laid BY PROGRAM, IN A SANDBOX (cutbox-door.mjs). By AI agents, Wed Nov 11 2026. No macro, syntax, notation, axiom, sorry.
-/
import Derived.Test.YthncmdkiljcjnaaGreatDoorRows
import GoSem.ClaimSeven
namespace Go.Proofs.YthncmdkiljcjnaaGreatDoor
namespace Rows

/-- THE TIED CARD OF 'wainwrightlaw21.VmCalls'. -/
def vmCallsCard : Claim7 := { stood := { row := vmCallsRow, standIns := [], harness := (true, "8d3ba3126d72c788bede28d6a9182b9f521b3ff2a7dfb8f2ce93714ebb88e771"), looks := true }, kinds := [], alts := [], laidByText := true, laidKinds := [.data, .data, .data, .data, .handle, .sentinel, .sentinel, .pinned], laidTests := true, laidLooks := .later }
def VmCallsCardSaid : Prop := Claim7.holds Tryz.pinned (.plain (OpenSpec.ofChange vmCallsSpec)) vmCallsCard

/-- THE TIED CARD OF 'wainwrightlaw21.VmLazy'. -/
def vmLazyCard : Claim7 := { stood := { row := vmLazyRow, standIns := [], harness := (true, "8d3ba3126d72c788bede28d6a9182b9f521b3ff2a7dfb8f2ce93714ebb88e771"), looks := true }, kinds := [], alts := [], laidByText := true, laidKinds := [.data, .data, .data, .data, .handle, .sentinel, .sentinel, .pinned], laidTests := true, laidLooks := .later }
def VmLazyCardSaid : Prop := Claim7.holds Tryz.pinned (.plain (OpenSpec.ofChange vmLazySpec)) vmLazyCard

/-- THE TIED CARD OF 'wainwrightlaw21.VmLoops'. -/
def vmLoopsCard : Claim7 := { stood := { row := vmLoopsRow, standIns := [], harness := (true, "8d3ba3126d72c788bede28d6a9182b9f521b3ff2a7dfb8f2ce93714ebb88e771"), looks := true }, kinds := [], alts := [], laidByText := true, laidKinds := [.data, .data, .data, .data, .handle, .sentinel, .sentinel, .pinned], laidTests := true, laidLooks := .later }
def VmLoopsCardSaid : Prop := Claim7.holds Tryz.pinned (.plain (OpenSpec.ofChange vmLoopsSpec)) vmLoopsCard

/-- THE SECOND FORM's CARD OF 'wainwrightlaw21.VmCalls'. -/
def vmCallsUptoCard : Claim7 := { stood := { row := vmCallsUptoRow, standIns := [], harness := (true, "8d3ba3126d72c788bede28d6a9182b9f521b3ff2a7dfb8f2ce93714ebb88e771"), looks := true }, kinds := [], alts := [], laidByText := true, laidKinds := [.data, .data, .data, .data, .handle, .sentinel, .sentinel, .pinned], laidTests := true, laidLooks := .later }
def VmCallsUptoCardSaid : Prop := Claim7.holds Tryz.pinned (.plain (OpenSpec.upto vmCallsSpec)) vmCallsUptoCard

/-- THE SECOND FORM's CARD OF 'wainwrightlaw21.VmLazy'. -/
def vmLazyUptoCard : Claim7 := { stood := { row := vmLazyUptoRow, standIns := [], harness := (true, "8d3ba3126d72c788bede28d6a9182b9f521b3ff2a7dfb8f2ce93714ebb88e771"), looks := true }, kinds := [], alts := [], laidByText := true, laidKinds := [.data, .data, .data, .data, .handle, .sentinel, .sentinel, .pinned], laidTests := true, laidLooks := .later }
def VmLazyUptoCardSaid : Prop := Claim7.holds Tryz.pinned (.plain (OpenSpec.upto vmLazySpec)) vmLazyUptoCard

/-- THE SECOND FORM's CARD OF 'wainwrightlaw21.VmLoops'. -/
def vmLoopsUptoCard : Claim7 := { stood := { row := vmLoopsUptoRow, standIns := [], harness := (true, "8d3ba3126d72c788bede28d6a9182b9f521b3ff2a7dfb8f2ce93714ebb88e771"), looks := true }, kinds := [], alts := [], laidByText := true, laidKinds := [.data, .data, .data, .data, .handle, .sentinel, .sentinel, .pinned], laidTests := true, laidLooks := .later }
def VmLoopsUptoCardSaid : Prop := Claim7.holds Tryz.pinned (.plain (OpenSpec.upto vmLoopsSpec)) vmLoopsUptoCard
end Rows
end Go.Proofs.YthncmdkiljcjnaaGreatDoor
