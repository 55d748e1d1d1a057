/-
  DERIVED. GIVEN WITH THE SEED: THE CARDS: each row of YteplichagkpciaaGreatDoorRows.lean that lists a variable, with what it lists TIED to the program's text (the seventh form; the later family's looks); each row that meets fmt, with fmt's text TOLD by the authors' own Lean function (tested against real Go, not proved from fmt's source: count such statements apart). THE CARD IS WHAT COUNTS. Prove the row's statement (the work); the ties are given (YteplichagkpciaaGreatDoorTie.lean); close each card by the builder's one call (the guide's Derived/Test/ToyasCard.lean, 'card_holds'). Laid BY PROGRAM, IN A SANDBOX (cutbox-door.mjs). By AI agents, Wed Nov 11 2026. No macro, syntax, notation, axiom, sorry.
-/
import Derived.Test.YteplichagkpciaaGreatDoorRows
import GoSem.ClaimSeven
namespace Go.Proofs.YteplichagkpciaaGreatDoor
namespace Rows

/-- THE TIED CARD OF 'bailiwicklaw20.TraceAgrees'. -/
def traceAgreesCard : Claim7 := { stood := { row := traceAgreesRow, standIns := [], harness := (true, "3cb085b54df9ae21e6a6cfd8b5ade78eed0912a9576105ab43e30a5112c9242a"), looks := true }, kinds := [], alts := [], laidByText := true, laidKinds := [.funcs], laidTests := true, laidLooks := .later }
def TraceAgreesCardSaid : Prop := Claim7.holds Tryz.pinned (.plain (OpenSpec.ofChange traceAgreesSpec)) traceAgreesCard

/-- THE TIED CARD OF 'bailiwicklaw25.SchedPicks'. -/
def schedPicksCard : Claim7 := { stood := { row := schedPicksRow, standIns := [], harness := (true, "3cb085b54df9ae21e6a6cfd8b5ade78eed0912a9576105ab43e30a5112c9242a"), looks := true }, kinds := [], alts := [], laidByText := true, laidKinds := [.funcs, .funcs], laidTests := true, laidLooks := .later }
def SchedPicksCardSaid : Prop := Claim7.holds Tryz.pinned (.plain (OpenSpec.ofChange schedPicksSpec)) schedPicksCard

/-- THE TIED CARD OF 'bailiwicklaw25.SchedGood'. -/
def schedGoodCard : Claim7 := { stood := { row := schedGoodRow, standIns := [], harness := (true, "3cb085b54df9ae21e6a6cfd8b5ade78eed0912a9576105ab43e30a5112c9242a"), looks := true }, kinds := [], alts := [], laidByText := true, laidKinds := [.funcs, .funcs], laidTests := true, laidLooks := .later }
def SchedGoodCardSaid : Prop := Claim7.holds Tryz.pinned (.plain (OpenSpec.ofChange schedGoodSpec)) schedGoodCard

/-- THE TIED CARD OF 'bailiwicklaw25.SchedTurns'. -/
def schedTurnsCard : Claim7 := { stood := { row := schedTurnsRow, standIns := [], harness := (true, "3cb085b54df9ae21e6a6cfd8b5ade78eed0912a9576105ab43e30a5112c9242a"), looks := true }, kinds := [], alts := [], laidByText := true, laidKinds := [.funcs, .funcs], laidTests := true, laidLooks := .later }
def SchedTurnsCardSaid : Prop := Claim7.holds Tryz.pinned (.plain (OpenSpec.ofChange schedTurnsSpec)) schedTurnsCard

/-- THE TIED CARD OF 'bailiwicklaw21.PartsAll'. -/
def partsAllCard : Claim7 := { stood := { row := partsAllRow, standIns := [], harness := (true, "3cb085b54df9ae21e6a6cfd8b5ade78eed0912a9576105ab43e30a5112c9242a"), looks := true }, kinds := [], alts := [], laidByText := true, laidKinds := [.funcs], laidTests := true, laidLooks := .later }
def PartsAllCardSaid : Prop := Claim7.holds Tryz.pinned (.plain (OpenSpec.ofChange partsAllSpec)) partsAllCard

/-- THE TIED CARD OF 'bailiwicklaw19.MachineAgain'. -/
def machineAgainCard : Claim7 := { stood := { row := machineAgainRow, standIns := [], harness := (true, "3cb085b54df9ae21e6a6cfd8b5ade78eed0912a9576105ab43e30a5112c9242a"), looks := true }, kinds := [], alts := [], laidByText := true, laidKinds := [.funcs], laidTests := true, laidLooks := .later }
def MachineAgainCardSaid : Prop := Claim7.holds Tryz.pinned (.plain (OpenSpec.ofChange machineAgainSpec)) machineAgainCard

/-- THE TIED CARD OF 'bailiwicklaw21.PartsTell'. -/
def partsTellCard : Claim7 := { stood := { row := partsTellRow, standIns := [], harness := (true, "3cb085b54df9ae21e6a6cfd8b5ade78eed0912a9576105ab43e30a5112c9242a"), looks := true }, kinds := [], alts := [], laidByText := true, laidKinds := [.funcs], laidTests := true, laidLooks := .later }
def PartsTellCardSaid : Prop := Claim7.holds Tryz.pinned (.plain (OpenSpec.ofChange partsTellSpec)) partsTellCard

/-- THE SECOND FORM's CARD OF 'bailiwicklaw20.TraceAgrees'. -/
def traceAgreesUptoCard : Claim7 := { stood := { row := traceAgreesUptoRow, standIns := [], harness := (true, "3cb085b54df9ae21e6a6cfd8b5ade78eed0912a9576105ab43e30a5112c9242a"), looks := true }, kinds := [], alts := [], laidByText := true, laidKinds := [.funcs], laidTests := true, laidLooks := .later }
def TraceAgreesUptoCardSaid : Prop := Claim7.holds Tryz.pinned (.plain (OpenSpec.upto traceAgreesSpec)) traceAgreesUptoCard

/-- THE SECOND FORM's CARD OF 'bailiwicklaw25.SchedPicks'. -/
def schedPicksUptoCard : Claim7 := { stood := { row := schedPicksUptoRow, standIns := [], harness := (true, "3cb085b54df9ae21e6a6cfd8b5ade78eed0912a9576105ab43e30a5112c9242a"), looks := true }, kinds := [], alts := [], laidByText := true, laidKinds := [.funcs, .funcs], laidTests := true, laidLooks := .later }
def SchedPicksUptoCardSaid : Prop := Claim7.holds Tryz.pinned (.plain (OpenSpec.upto schedPicksSpec)) schedPicksUptoCard

/-- THE SECOND FORM's CARD OF 'bailiwicklaw25.SchedGood'. -/
def schedGoodUptoCard : Claim7 := { stood := { row := schedGoodUptoRow, standIns := [], harness := (true, "3cb085b54df9ae21e6a6cfd8b5ade78eed0912a9576105ab43e30a5112c9242a"), looks := true }, kinds := [], alts := [], laidByText := true, laidKinds := [.funcs, .funcs], laidTests := true, laidLooks := .later }
def SchedGoodUptoCardSaid : Prop := Claim7.holds Tryz.pinned (.plain (OpenSpec.upto schedGoodSpec)) schedGoodUptoCard

/-- THE SECOND FORM's CARD OF 'bailiwicklaw25.SchedTurns'. -/
def schedTurnsUptoCard : Claim7 := { stood := { row := schedTurnsUptoRow, standIns := [], harness := (true, "3cb085b54df9ae21e6a6cfd8b5ade78eed0912a9576105ab43e30a5112c9242a"), looks := true }, kinds := [], alts := [], laidByText := true, laidKinds := [.funcs, .funcs], laidTests := true, laidLooks := .later }
def SchedTurnsUptoCardSaid : Prop := Claim7.holds Tryz.pinned (.plain (OpenSpec.upto schedTurnsSpec)) schedTurnsUptoCard

/-- THE SECOND FORM's CARD OF 'bailiwicklaw21.PartsAll'. -/
def partsAllUptoCard : Claim7 := { stood := { row := partsAllUptoRow, standIns := [], harness := (true, "3cb085b54df9ae21e6a6cfd8b5ade78eed0912a9576105ab43e30a5112c9242a"), looks := true }, kinds := [], alts := [], laidByText := true, laidKinds := [.funcs], laidTests := true, laidLooks := .later }
def PartsAllUptoCardSaid : Prop := Claim7.holds Tryz.pinned (.plain (OpenSpec.upto partsAllSpec)) partsAllUptoCard

/-- THE SECOND FORM's CARD OF 'bailiwicklaw19.MachineAgain'. -/
def machineAgainUptoCard : Claim7 := { stood := { row := machineAgainUptoRow, standIns := [], harness := (true, "3cb085b54df9ae21e6a6cfd8b5ade78eed0912a9576105ab43e30a5112c9242a"), looks := true }, kinds := [], alts := [], laidByText := true, laidKinds := [.funcs], laidTests := true, laidLooks := .later }
def MachineAgainUptoCardSaid : Prop := Claim7.holds Tryz.pinned (.plain (OpenSpec.upto machineAgainSpec)) machineAgainUptoCard

/-- THE SECOND FORM's CARD OF 'bailiwicklaw21.PartsTell'. -/
def partsTellUptoCard : Claim7 := { stood := { row := partsTellUptoRow, standIns := [], harness := (true, "3cb085b54df9ae21e6a6cfd8b5ade78eed0912a9576105ab43e30a5112c9242a"), looks := true }, kinds := [], alts := [], laidByText := true, laidKinds := [.funcs], laidTests := true, laidLooks := .later }
def PartsTellUptoCardSaid : Prop := Claim7.holds Tryz.pinned (.plain (OpenSpec.upto partsTellSpec)) partsTellUptoCard
end Rows
end Go.Proofs.YteplichagkpciaaGreatDoor
