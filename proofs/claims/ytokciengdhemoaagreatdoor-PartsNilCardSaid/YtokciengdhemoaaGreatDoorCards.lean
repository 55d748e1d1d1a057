/-
  DERIVED. GIVEN WITH THE SEED: THE CARDS: each row of YtokciengdhemoaaGreatDoorRows.lean that lists a variable, with what it lists TIED to the program's text (the seventh form; the later family's looks); each row that meets fmt, with fmt's text TOLD by the authors' own Lean function (tested against real Go, not proved from fmt's source: count such statements apart). THE CARD IS WHAT COUNTS. Prove the row's statement (the work); the ties are given (YtokciengdhemoaaGreatDoorTie.lean); close each card by the builder's one call (the guide's Derived/Test/ToyasCard.lean, 'card_holds'). Laid BY PROGRAM, IN A SANDBOX (cutbox-door.mjs). By AI agents, Wed Nov 11 2026. No macro, syntax, notation, axiom, sorry.
-/
import Derived.Test.YtokciengdhemoaaGreatDoorRows
import GoSem.ClaimSeven
namespace Go.Proofs.YtokciengdhemoaaGreatDoor
namespace Rows

/-- THE TIED CARD OF 'bailiwicklaw19.MachineNil'. -/
def machineNilCard : Claim7 := { stood := { row := machineNilRow, standIns := [], harness := (true, "d9f9197663383d609b6ff1ac5e7097744c2abc859a79361aa4706010f50e6de3"), looks := true }, kinds := [], alts := [], laidByText := true, laidKinds := [.funcs], laidTests := true, laidLooks := .later }
def MachineNilCardSaid : Prop := Claim7.holds Tryz.pinned (.plain (OpenSpec.ofChange machineNilSpec)) machineNilCard

/-- THE TIED CARD OF 'bailiwicklaw21.PartsNil'. -/
def partsNilCard : Claim7 := { stood := { row := partsNilRow, standIns := [], harness := (true, "d9f9197663383d609b6ff1ac5e7097744c2abc859a79361aa4706010f50e6de3"), looks := true }, kinds := [], alts := [], laidByText := true, laidKinds := [.funcs], laidTests := true, laidLooks := .later }
def PartsNilCardSaid : Prop := Claim7.holds Tryz.pinned (.plain (OpenSpec.ofChange partsNilSpec)) partsNilCard

/-- THE SECOND FORM's CARD OF 'bailiwicklaw19.MachineNil'. -/
def machineNilUptoCard : Claim7 := { stood := { row := machineNilUptoRow, standIns := [], harness := (true, "d9f9197663383d609b6ff1ac5e7097744c2abc859a79361aa4706010f50e6de3"), looks := true }, kinds := [], alts := [], laidByText := true, laidKinds := [.funcs], laidTests := true, laidLooks := .later }
def MachineNilUptoCardSaid : Prop := Claim7.holds Tryz.pinned (.plain (OpenSpec.upto machineNilSpec)) machineNilUptoCard

/-- THE SECOND FORM's CARD OF 'bailiwicklaw21.PartsNil'. -/
def partsNilUptoCard : Claim7 := { stood := { row := partsNilUptoRow, standIns := [], harness := (true, "d9f9197663383d609b6ff1ac5e7097744c2abc859a79361aa4706010f50e6de3"), looks := true }, kinds := [], alts := [], laidByText := true, laidKinds := [.funcs], laidTests := true, laidLooks := .later }
def PartsNilUptoCardSaid : Prop := Claim7.holds Tryz.pinned (.plain (OpenSpec.upto partsNilSpec)) partsNilUptoCard
end Rows
end Go.Proofs.YtokciengdhemoaaGreatDoor
