/-
  DERIVED. GIVEN WITH THE SEED: THE CARDS: each row of YtohnmnbdmcoflaaDoorRows.lean that lists a variable, with what it lists TIED to the program's text (the seventh form; the later family's looks); each row that meets fmt, with fmt's text TOLD by the authors' own Lean function (tested against real Go, not proved from fmt's source: count such statements apart). THE CARD IS WHAT COUNTS. Prove the row's statement (the work); the ties are given (YtohnmnbdmcoflaaDoorTie.lean); close each card by the builder's one call (the guide's Derived/Test/ToyasCard.lean, 'card_holds'). Laid BY PROGRAM, IN A SANDBOX (cutbox-door.mjs). By AI agents, Wed Nov 11 2026. No macro, syntax, notation, axiom, sorry.
-/
import Derived.Test.YtohnmnbdmcoflaaDoorRows
import GoSem.ClaimSeven
namespace Go.Proofs.YtohnmnbdmcoflaaDoor
namespace Rows

/-- THE TIED CARD OF 'bailiwicklaw32.LinearWidens'. -/
def linearWidensCard : Claim7 := { stood := { row := linearWidensRow, standIns := [], harness := (true, "616aa12b9529ae5eba778437a5f6b35e68272125266419f3f90b5540630b8707"), looks := true }, kinds := [], alts := [], laidByText := true, laidKinds := [.funcs], laidTests := true, laidLooks := .later }
def LinearWidensCardSaid : Prop := Claim7.holds Tryd.pinned (.plain (OpenSpec.ofChange linearWidensSpec)) linearWidensCard

/-- THE SECOND FORM's CARD OF 'bailiwicklaw32.LinearWidens'. -/
def linearWidensUptoCard : Claim7 := { stood := { row := linearWidensUptoRow, standIns := [], harness := (true, "616aa12b9529ae5eba778437a5f6b35e68272125266419f3f90b5540630b8707"), looks := true }, kinds := [], alts := [], laidByText := true, laidKinds := [.funcs], laidTests := true, laidLooks := .later }
def LinearWidensUptoCardSaid : Prop := Claim7.holds Tryd.pinned (.plain (OpenSpec.upto linearWidensSpec)) linearWidensUptoCard
end Rows
end Go.Proofs.YtohnmnbdmcoflaaDoor
