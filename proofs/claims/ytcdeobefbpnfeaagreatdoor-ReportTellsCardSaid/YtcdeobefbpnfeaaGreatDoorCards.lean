/-
  DERIVED. GIVEN WITH THE SEED: THE CARDS: each row of YtcdeobefbpnfeaaGreatDoorRows.lean that lists a variable, with what it lists TIED to the program's text (the seventh form; the later family's looks); each row that meets fmt, with fmt's text TOLD by the authors' own Lean function (tested against real Go, not proved from fmt's source: count such statements apart). THE CARD IS WHAT COUNTS. Prove the row's statement (the work); the ties are given (YtcdeobefbpnfeaaGreatDoorTie.lean); close each card by the builder's one call (the guide's Derived/Test/ToyasCard.lean, 'card_holds'). Laid BY PROGRAM, IN A SANDBOX (cutbox-door.mjs). By AI agents, Wed Nov 11 2026. No macro, syntax, notation, axiom, sorry.
-/
import Derived.Test.YtcdeobefbpnfeaaGreatDoorRows
import GoSem.ClaimSeven
namespace Go.Proofs.YtcdeobefbpnfeaaGreatDoor
namespace Rows

/-- THE TIED CARD OF 'bailiwicklaw22.ReportTells'. -/
def reportTellsCard : Claim7 := { stood := { row := reportTellsRow, standIns := [], harness := (true, "5cafea41e4d83db817d8e46360efb16c88580c58339ae204ee19ba329f1e190d"), looks := true }, kinds := [], alts := [], laidByText := true, laidKinds := [.funcs], laidTests := true, laidLooks := .later }
def ReportTellsCardSaid : Prop := Claim7.holds Tryz.pinned (.plain (OpenSpec.ofChange reportTellsSpec)) reportTellsCard

/-- THE TIED CARD OF 'bailiwicklaw22.ReportSums'. -/
def reportSumsCard : Claim7 := { stood := { row := reportSumsRow, standIns := [], harness := (true, "5cafea41e4d83db817d8e46360efb16c88580c58339ae204ee19ba329f1e190d"), looks := true }, kinds := [], alts := [], laidByText := true, laidKinds := [.funcs], laidTests := true, laidLooks := .later }
def ReportSumsCardSaid : Prop := Claim7.holds Tryz.pinned (.plain (OpenSpec.ofChange reportSumsSpec)) reportSumsCard

/-- THE TIED CARD OF 'bailiwicklaw32.LinearAsIs'. -/
def linearAsIsCard : Claim7 := { stood := { row := linearAsIsRow, standIns := [], harness := (true, "5cafea41e4d83db817d8e46360efb16c88580c58339ae204ee19ba329f1e190d"), looks := true }, kinds := [], alts := [], laidByText := true, laidKinds := [.funcs], laidTests := true, laidLooks := .later }
def LinearAsIsCardSaid : Prop := Claim7.holds Tryz.pinned (.plain (OpenSpec.ofChange linearAsIsSpec)) linearAsIsCard

/-- THE TIED CARD OF 'bailiwicklaw29.ClockReads'. -/
def clockReadsCard : Claim7 := { stood := { row := clockReadsRow, standIns := [], harness := (true, "5cafea41e4d83db817d8e46360efb16c88580c58339ae204ee19ba329f1e190d"), looks := true }, kinds := [], alts := [], laidByText := true, laidKinds := [.funcs], laidTests := true, laidLooks := .later }
def ClockReadsCardSaid : Prop := Claim7.holds Tryz.pinned (.plain (OpenSpec.ofChange clockReadsSpec)) clockReadsCard

/-- THE SECOND FORM's CARD OF 'bailiwicklaw22.ReportTells'. -/
def reportTellsUptoCard : Claim7 := { stood := { row := reportTellsUptoRow, standIns := [], harness := (true, "5cafea41e4d83db817d8e46360efb16c88580c58339ae204ee19ba329f1e190d"), looks := true }, kinds := [], alts := [], laidByText := true, laidKinds := [.funcs], laidTests := true, laidLooks := .later }
def ReportTellsUptoCardSaid : Prop := Claim7.holds Tryz.pinned (.plain (OpenSpec.upto reportTellsSpec)) reportTellsUptoCard

/-- THE SECOND FORM's CARD OF 'bailiwicklaw22.ReportSums'. -/
def reportSumsUptoCard : Claim7 := { stood := { row := reportSumsUptoRow, standIns := [], harness := (true, "5cafea41e4d83db817d8e46360efb16c88580c58339ae204ee19ba329f1e190d"), looks := true }, kinds := [], alts := [], laidByText := true, laidKinds := [.funcs], laidTests := true, laidLooks := .later }
def ReportSumsUptoCardSaid : Prop := Claim7.holds Tryz.pinned (.plain (OpenSpec.upto reportSumsSpec)) reportSumsUptoCard

/-- THE SECOND FORM's CARD OF 'bailiwicklaw32.LinearAsIs'. -/
def linearAsIsUptoCard : Claim7 := { stood := { row := linearAsIsUptoRow, standIns := [], harness := (true, "5cafea41e4d83db817d8e46360efb16c88580c58339ae204ee19ba329f1e190d"), looks := true }, kinds := [], alts := [], laidByText := true, laidKinds := [.funcs], laidTests := true, laidLooks := .later }
def LinearAsIsUptoCardSaid : Prop := Claim7.holds Tryz.pinned (.plain (OpenSpec.upto linearAsIsSpec)) linearAsIsUptoCard

/-- THE SECOND FORM's CARD OF 'bailiwicklaw29.ClockReads'. -/
def clockReadsUptoCard : Claim7 := { stood := { row := clockReadsUptoRow, standIns := [], harness := (true, "5cafea41e4d83db817d8e46360efb16c88580c58339ae204ee19ba329f1e190d"), looks := true }, kinds := [], alts := [], laidByText := true, laidKinds := [.funcs], laidTests := true, laidLooks := .later }
def ClockReadsUptoCardSaid : Prop := Claim7.holds Tryz.pinned (.plain (OpenSpec.upto clockReadsSpec)) clockReadsUptoCard
end Rows
end Go.Proofs.YtcdeobefbpnfeaaGreatDoor
