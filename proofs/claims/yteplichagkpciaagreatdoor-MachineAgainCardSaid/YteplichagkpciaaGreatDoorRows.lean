/-
  NARROWER THAN 'FOR EVERY INPUT', by the rows' own cells (each row's printed sentence says how): TraceAgrees: laid · SchedPicks: laid · SchedGood: laid · SchedTurns: laid · PartsAll: laid · MachineAgain: laid · PartsTell: laid.
  DERIVED. THE GIVEN ROWS OF THIS SEAT. 7 by the template 'for every input the law returns true; each argument reads behind the call as it read before'; 0 by the template 'total and deterministic' (their statements: YteplichagkpciaaGreatDoorTotals.lean).
  GIVEN WITH THE SEED: the statements are not yours to turn. If you find one false, say at which input.
  Laid BY PROGRAM, IN A SANDBOX (cutbox-rows.mjs): the forced cells as the released guide's own fill.sh prints them over the translation bcd11210cdfb9358… (all of the seat's roots in one cut). By AI agents, Wed Nov 11 2026. No macro, syntax, notation, axiom, sorry.
-/
import Derived.Test.YteplichagkpciaaGreatDoorChecked
import GoSem.Claim
import GoSem.ClaimJoined
import GoSem.ClaimMapViews
import Derived.JoinedTies
import Derived.KernelRfl
namespace Go.Proofs.YteplichagkpciaaGreatDoor
/- THE CELL 'sum', in the pinned program and in every row, IS THE sha256 OF THE DUMP (.gsa) THAT YteplichagkpciaaGreatDoorProg.lean LOADS. Nothing in Lean hashes anything: it is a label: what it is worth is what the hold of that sum in a sandbox is worth. -/
noncomputable def Tryz.pinned : Pinned := { name := "yteplichagkpciaagreatdoor", sum := "bcd11210cdfb93587e709136c508ee5cfcb27cfa9322f222529248f197cd520a", checked := Tryz.checked }
namespace Rows
def none {H : Type} : Left H := { results := [], args := [] }

/- WHAT THE LISTED PACKAGE-LEVEL VARIABLES READ AS WHEN THE CALL BEGINS. Each datum BY PROGRAM (the guide's laid-datum.mjs) off the statement by which the dump's own 'gosem.cut.vars' lays the variable. In a bare row this is a premise. The card (YteplichagkpciaaGreatDoorCards.lean) ties it to the program's text. -/
def laid_bailiwick_model_does {H : Type} : DataW H := .iface "func table" (.map [(.int .u8 1, .iface "func" (.lit (.string [40, 42, 98, 97, 105, 108, 105, 119, 105, 99, 107, 47, 109, 111, 100, 101, 108, 46, 99, 97, 108, 108, 101, 114, 41, 46, 110, 101, 119]))), (.int .u8 2, .iface "func" (.lit (.string [40, 42, 98, 97, 105, 108, 105, 119, 105, 99, 107, 47, 109, 111, 100, 101, 108, 46, 99, 97, 108, 108, 101, 114, 41, 46, 97, 108, 108, 111, 99]))), (.int .u8 3, .iface "func" (.lit (.string [40, 42, 98, 97, 105, 108, 105, 119, 105, 99, 107, 47, 109, 111, 100, 101, 108, 46, 99, 97, 108, 108, 101, 114, 41, 46, 108, 111, 97, 100]))), (.int .u8 4, .iface "func" (.lit (.string [40, 42, 98, 97, 105, 108, 105, 119, 105, 99, 107, 47, 109, 111, 100, 101, 108, 46, 99, 97, 108, 108, 101, 114, 41, 46, 115, 116, 111, 114, 101]))), (.int .u8 5, .iface "func" (.lit (.string [40, 42, 98, 97, 105, 108, 105, 119, 105, 99, 107, 47, 109, 111, 100, 101, 108, 46, 99, 97, 108, 108, 101, 114, 41, 46, 114, 101, 115, 101, 116]))), (.int .u8 6, .iface "func" (.lit (.string [40, 42, 98, 97, 105, 108, 105, 119, 105, 99, 107, 47, 109, 111, 100, 101, 108, 46, 99, 97, 108, 108, 101, 114, 41, 46, 100, 101, 108, 101, 116, 101]))), (.int .u8 7, .iface "func" (.lit (.string [40, 42, 98, 97, 105, 108, 105, 119, 105, 99, 107, 47, 109, 111, 100, 101, 108, 46, 99, 97, 108, 108, 101, 114, 41, 46, 99, 117, 116]))), (.int .u8 8, .iface "func" (.lit (.string [40, 42, 98, 97, 105, 108, 105, 119, 105, 99, 107, 47, 109, 111, 100, 101, 108, 46, 99, 97, 108, 108, 101, 114, 41, 46, 103, 114, 97, 102, 116]))), (.int .u8 9, .iface "func" (.lit (.string [40, 42, 98, 97, 105, 108, 105, 119, 105, 99, 107, 47, 109, 111, 100, 101, 108, 46, 99, 97, 108, 108, 101, 114, 41, 46, 102, 114, 101, 101, 122, 101]))), (.int .u8 10, .iface "func" (.lit (.string [40, 42, 98, 97, 105, 108, 105, 119, 105, 99, 107, 47, 109, 111, 100, 101, 108, 46, 99, 97, 108, 108, 101, 114, 41, 46, 115, 104, 97, 114, 101]))), (.int .u8 11, .iface "func" (.lit (.string [40, 42, 98, 97, 105, 108, 105, 119, 105, 99, 107, 47, 109, 111, 100, 101, 108, 46, 99, 97, 108, 108, 101, 114, 41, 46, 100, 114, 111, 112]))), (.int .u8 12, .iface "func" (.lit (.string [40, 42, 98, 97, 105, 108, 105, 119, 105, 99, 107, 47, 109, 111, 100, 101, 108, 46, 99, 97, 108, 108, 101, 114, 41, 46, 108, 101, 110, 100]))), (.int .u8 13, .iface "func" (.lit (.string [40, 42, 98, 97, 105, 108, 105, 119, 105, 99, 107, 47, 109, 111, 100, 101, 108, 46, 99, 97, 108, 108, 101, 114, 41, 46, 103, 105, 118, 101, 66, 97, 99, 107]))), (.int .u8 14, .iface "func" (.lit (.string [40, 42, 98, 97, 105, 108, 105, 119, 105, 99, 107, 47, 109, 111, 100, 101, 108, 46, 99, 97, 108, 108, 101, 114, 41, 46, 115, 101, 110, 100]))), (.int .u8 15, .iface "func" (.lit (.string [40, 42, 98, 97, 105, 108, 105, 119, 105, 99, 107, 47, 109, 111, 100, 101, 108, 46, 99, 97, 108, 108, 101, 114, 41, 46, 114, 101, 99, 118]))), (.int .u8 16, .iface "func" (.lit (.string [40, 42, 98, 97, 105, 108, 105, 119, 105, 99, 107, 47, 109, 111, 100, 101, 108, 46, 99, 97, 108, 108, 101, 114, 41, 46, 114, 101, 99, 118]))), (.int .u8 17, .iface "func" (.lit (.string [40, 42, 98, 97, 105, 108, 105, 119, 105, 99, 107, 47, 109, 111, 100, 101, 108, 46, 99, 97, 108, 108, 101, 114, 41, 46, 99, 108, 111, 115, 101]))), (.int .u8 18, .iface "func" (.lit (.string [40, 42, 98, 97, 105, 108, 105, 119, 105, 99, 107, 47, 109, 111, 100, 101, 108, 46, 99, 97, 108, 108, 101, 114, 41, 46, 114, 101, 102]))), (.int .u8 19, .iface "func" (.lit (.string [40, 42, 98, 97, 105, 108, 105, 119, 105, 99, 107, 47, 109, 111, 100, 101, 108, 46, 99, 97, 108, 108, 101, 114, 41, 46, 100, 101, 114, 101, 102]))), (.int .u8 20, .iface "func" (.lit (.string [40, 42, 98, 97, 105, 108, 105, 119, 105, 99, 107, 47, 109, 111, 100, 101, 108, 46, 99, 97, 108, 108, 101, 114, 41, 46, 101, 120, 105, 116]))), (.int .u8 21, .iface "func" (.lit (.string [40, 42, 98, 97, 105, 108, 105, 119, 105, 99, 107, 47, 109, 111, 100, 101, 108, 46, 99, 97, 108, 108, 101, 114, 41, 46, 107, 105, 108, 108]))), (.int .u8 22, .iface "func" (.lit (.string [40, 42, 98, 97, 105, 108, 105, 119, 105, 99, 107, 47, 109, 111, 100, 101, 108, 46, 99, 97, 108, 108, 101, 114, 41, 46, 115, 112, 97, 119, 110])))])
def laid_bailiwick_sched_kinds {H : Type} : DataW H := .iface "func table" (.map [(.int .u8 0, .iface "func" (.lit (.string [98, 97, 105, 108, 105, 119, 105, 99, 107, 47, 115, 99, 104, 101, 100, 46, 107, 105, 110, 100, 115, 36, 49]))), (.int .u8 1, .iface "func" (.lit (.string [98, 97, 105, 108, 105, 119, 105, 99, 107, 47, 115, 99, 104, 101, 100, 46, 107, 105, 110, 100, 115, 36, 50]))), (.int .u8 2, .iface "func" (.lit (.string [98, 97, 105, 108, 105, 119, 105, 99, 107, 47, 115, 99, 104, 101, 100, 46, 107, 105, 110, 100, 115, 36, 51])))])

/-- 'bailiwicklaw20.TraceAgrees': WHATEVER THE INPUT: true; the input reads as it did. -/
def traceAgreesSpec : ChangeSpec := { name := "traceAgrees", fn := fun _ => fun
  | [d] => { results := [.lit (.bool true)], args := [d] }
  | _ => none }
def traceAgreesRow : OpenClaim := { program := "yteplichagkpciaagreatdoor", sum := "bcd11210cdfb93587e709136c508ee5cfcb27cfa9322f222529248f197cd520a", func := "bailiwick/bailiwicklaw20.TraceAgrees", spec := "traceAgrees", unfollowed := true, recurses := true, named := ["bailiwick/model.does"], apart := false, laid := [("bailiwick/model.does", laid_bailiwick_model_does)] }
def TraceAgreesSaid : Prop := traceAgreesRow.holds Tryz.pinned (OpenSpec.ofChange traceAgreesSpec)

/-- ITS FALSE NEIGHBOUR: 'it returns false'. Refute it at one input. -/
def traceAgreesWrong : ChangeSpec := { name := "traceAgrees", fn := fun _ => fun
  | [d] => { results := [.lit (.bool false)], args := [d] }
  | _ => none }
def TraceAgreesWrongFalsely : Prop := traceAgreesRow.holds Tryz.pinned (OpenSpec.ofChange traceAgreesWrong)

/-- 'bailiwicklaw25.SchedPicks': WHATEVER THE INPUT: true; the input reads as it did. -/
def schedPicksSpec : ChangeSpec := { name := "schedPicks", fn := fun _ => fun
  | [d1, d2, d3] => { results := [.lit (.bool true)], args := [d1, d2, d3] }
  | _ => none }
def schedPicksRow : OpenClaim := { program := "yteplichagkpciaagreatdoor", sum := "bcd11210cdfb93587e709136c508ee5cfcb27cfa9322f222529248f197cd520a", func := "bailiwick/bailiwicklaw25.SchedPicks", spec := "schedPicks", unfollowed := true, recurses := true, named := ["bailiwick/model.does", "bailiwick/sched.kinds"], apart := false, laid := [("bailiwick/model.does", laid_bailiwick_model_does), ("bailiwick/sched.kinds", laid_bailiwick_sched_kinds)] }
def SchedPicksSaid : Prop := schedPicksRow.holds Tryz.pinned (OpenSpec.ofChange schedPicksSpec)

/-- ITS FALSE NEIGHBOUR: 'it returns false'. Refute it at one input. -/
def schedPicksWrong : ChangeSpec := { name := "schedPicks", fn := fun _ => fun
  | [d1, d2, d3] => { results := [.lit (.bool false)], args := [d1, d2, d3] }
  | _ => none }
def SchedPicksWrongFalsely : Prop := schedPicksRow.holds Tryz.pinned (OpenSpec.ofChange schedPicksWrong)

/-- 'bailiwicklaw25.SchedGood': WHATEVER THE INPUT: true; the input reads as it did. -/
def schedGoodSpec : ChangeSpec := { name := "schedGood", fn := fun _ => fun
  | [d1, d2, d3] => { results := [.lit (.bool true)], args := [d1, d2, d3] }
  | _ => none }
def schedGoodRow : OpenClaim := { program := "yteplichagkpciaagreatdoor", sum := "bcd11210cdfb93587e709136c508ee5cfcb27cfa9322f222529248f197cd520a", func := "bailiwick/bailiwicklaw25.SchedGood", spec := "schedGood", unfollowed := true, recurses := true, named := ["bailiwick/sched.kinds", "bailiwick/model.does"], apart := false, laid := [("bailiwick/model.does", laid_bailiwick_model_does), ("bailiwick/sched.kinds", laid_bailiwick_sched_kinds)] }
def SchedGoodSaid : Prop := schedGoodRow.holds Tryz.pinned (OpenSpec.ofChange schedGoodSpec)

/-- ITS FALSE NEIGHBOUR: 'it returns false'. Refute it at one input. -/
def schedGoodWrong : ChangeSpec := { name := "schedGood", fn := fun _ => fun
  | [d1, d2, d3] => { results := [.lit (.bool false)], args := [d1, d2, d3] }
  | _ => none }
def SchedGoodWrongFalsely : Prop := schedGoodRow.holds Tryz.pinned (OpenSpec.ofChange schedGoodWrong)

/-- 'bailiwicklaw25.SchedTurns': WHATEVER THE INPUT: true; the input reads as it did. -/
def schedTurnsSpec : ChangeSpec := { name := "schedTurns", fn := fun _ => fun
  | [d1, d2, d3] => { results := [.lit (.bool true)], args := [d1, d2, d3] }
  | _ => none }
def schedTurnsRow : OpenClaim := { program := "yteplichagkpciaagreatdoor", sum := "bcd11210cdfb93587e709136c508ee5cfcb27cfa9322f222529248f197cd520a", func := "bailiwick/bailiwicklaw25.SchedTurns", spec := "schedTurns", unfollowed := true, recurses := true, named := ["bailiwick/model.does", "bailiwick/sched.kinds"], apart := false, laid := [("bailiwick/model.does", laid_bailiwick_model_does), ("bailiwick/sched.kinds", laid_bailiwick_sched_kinds)] }
def SchedTurnsSaid : Prop := schedTurnsRow.holds Tryz.pinned (OpenSpec.ofChange schedTurnsSpec)

/-- ITS FALSE NEIGHBOUR: 'it returns false'. Refute it at one input. -/
def schedTurnsWrong : ChangeSpec := { name := "schedTurns", fn := fun _ => fun
  | [d1, d2, d3] => { results := [.lit (.bool false)], args := [d1, d2, d3] }
  | _ => none }
def SchedTurnsWrongFalsely : Prop := schedTurnsRow.holds Tryz.pinned (OpenSpec.ofChange schedTurnsWrong)

/-- 'bailiwicklaw21.PartsAll': WHATEVER THE INPUT: true; the input reads as it did. -/
def partsAllSpec : ChangeSpec := { name := "partsAll", fn := fun _ => fun
  | [d] => { results := [.lit (.bool true)], args := [d] }
  | _ => none }
def partsAllRow : OpenClaim := { program := "yteplichagkpciaagreatdoor", sum := "bcd11210cdfb93587e709136c508ee5cfcb27cfa9322f222529248f197cd520a", func := "bailiwick/bailiwicklaw21.PartsAll", spec := "partsAll", unfollowed := true, recurses := true, named := ["bailiwick/model.does"], apart := false, laid := [("bailiwick/model.does", laid_bailiwick_model_does)] }
def PartsAllSaid : Prop := partsAllRow.holds Tryz.pinned (OpenSpec.ofChange partsAllSpec)

/-- ITS FALSE NEIGHBOUR: 'it returns false'. Refute it at one input. -/
def partsAllWrong : ChangeSpec := { name := "partsAll", fn := fun _ => fun
  | [d] => { results := [.lit (.bool false)], args := [d] }
  | _ => none }
def PartsAllWrongFalsely : Prop := partsAllRow.holds Tryz.pinned (OpenSpec.ofChange partsAllWrong)

/-- 'bailiwicklaw19.MachineAgain': WHATEVER THE INPUT: true; the input reads as it did. -/
def machineAgainSpec : ChangeSpec := { name := "machineAgain", fn := fun _ => fun
  | [d] => { results := [.lit (.bool true)], args := [d] }
  | _ => none }
def machineAgainRow : OpenClaim := { program := "yteplichagkpciaagreatdoor", sum := "bcd11210cdfb93587e709136c508ee5cfcb27cfa9322f222529248f197cd520a", func := "bailiwick/bailiwicklaw19.MachineAgain", spec := "machineAgain", unfollowed := true, recurses := true, named := ["bailiwick/model.does"], apart := false, laid := [("bailiwick/model.does", laid_bailiwick_model_does)] }
def MachineAgainSaid : Prop := machineAgainRow.holds Tryz.pinned (OpenSpec.ofChange machineAgainSpec)

/-- ITS FALSE NEIGHBOUR: 'it returns false'. Refute it at one input. -/
def machineAgainWrong : ChangeSpec := { name := "machineAgain", fn := fun _ => fun
  | [d] => { results := [.lit (.bool false)], args := [d] }
  | _ => none }
def MachineAgainWrongFalsely : Prop := machineAgainRow.holds Tryz.pinned (OpenSpec.ofChange machineAgainWrong)

/-- 'bailiwicklaw21.PartsTell': WHATEVER THE INPUT: true; the input reads as it did. -/
def partsTellSpec : ChangeSpec := { name := "partsTell", fn := fun _ => fun
  | [d] => { results := [.lit (.bool true)], args := [d] }
  | _ => none }
def partsTellRow : OpenClaim := { program := "yteplichagkpciaagreatdoor", sum := "bcd11210cdfb93587e709136c508ee5cfcb27cfa9322f222529248f197cd520a", func := "bailiwick/bailiwicklaw21.PartsTell", spec := "partsTell", unfollowed := true, recurses := true, named := ["bailiwick/model.does"], apart := false, laid := [("bailiwick/model.does", laid_bailiwick_model_does)] }
def PartsTellSaid : Prop := partsTellRow.holds Tryz.pinned (OpenSpec.ofChange partsTellSpec)

/-- ITS FALSE NEIGHBOUR: 'it returns false'. Refute it at one input. -/
def partsTellWrong : ChangeSpec := { name := "partsTell", fn := fun _ => fun
  | [d] => { results := [.lit (.bool false)], args := [d] }
  | _ => none }
def PartsTellWrongFalsely : Prop := partsTellRow.holds Tryz.pinned (OpenSpec.ofChange partsTellWrong)

/- THE SECOND FORM. 'bulk': how many values and letters a reading holds, each counted each time it is reached (what is shared counts as often as it is met; a slice's spare places count too). A statement '..UptoSaid' is the law's where the arguments, and the package variables that the reading takes, are together of bulk at most 1048576: NARROWER than '..Said'. Prove '..Said' where nothing that the law and all that it calls make is longer than what came in: it says more and counts as full. Else prove '..UptoSaid'. A law counts once. -/
mutual
def uptoBulk {H : Type} : DataW H → Nat
  | .lit (.string bytes) => bytes.length + 1
  | .lit _ => 1
  | .nil => 1
  | .ptr d => uptoBulk d + 1
  | .slice elems spare => uptoBulkAll elems + uptoBulkAll spare + 1
  | .agg parts => uptoBulkAll parts + 1
  | .iface _ d => uptoBulk d + 1
  | .map entries => uptoBulkEntries entries + 1
  | .held _ => 1
def uptoBulkAll {H : Type} : List (DataW H) → Nat
  | [] => 0
  | d :: r => uptoBulk d + uptoBulkAll r
def uptoBulkEntries {H : Type} : List (Lit × DataW H) → Nat
  | [] => 0
  | x :: r => uptoBulkEntry x + uptoBulkEntries r
def uptoBulkEntry {H : Type} : Lit × DataW H → Nat
  | (.string bytes, d) => bytes.length + uptoBulk d + 1
  | (_, d) => uptoBulk d + 1
 end
def uptoSmall : (H : Type) → List (DataW H) → Bool := fun _ ds => decide (uptoBulkAll ds ≤ 1048576)
def OpenSpec.upto (s : _root_.Go.ChangeSpec) : _root_.Go.OpenSpec := { _root_.Go.OpenSpec.ofChange s with cond := some uptoSmall }

/-- 'bailiwicklaw20.TraceAgrees', WHERE WHAT IT READS IS OF BULK AT MOST 1048576: true; the input reads as it did. -/
def traceAgreesUptoRow : OpenClaim := { program := "yteplichagkpciaagreatdoor", sum := "bcd11210cdfb93587e709136c508ee5cfcb27cfa9322f222529248f197cd520a", func := "bailiwick/bailiwicklaw20.TraceAgrees", spec := "traceAgrees", unfollowed := true, recurses := true, named := ["bailiwick/model.does"], apart := false, laid := [("bailiwick/model.does", laid_bailiwick_model_does)], narrowed := true }
def TraceAgreesUptoSaid : Prop := traceAgreesUptoRow.holds Tryz.pinned (OpenSpec.upto traceAgreesSpec)

/-- 'bailiwicklaw25.SchedPicks', WHERE WHAT IT READS IS OF BULK AT MOST 1048576: true; the input reads as it did. -/
def schedPicksUptoRow : OpenClaim := { program := "yteplichagkpciaagreatdoor", sum := "bcd11210cdfb93587e709136c508ee5cfcb27cfa9322f222529248f197cd520a", func := "bailiwick/bailiwicklaw25.SchedPicks", spec := "schedPicks", unfollowed := true, recurses := true, named := ["bailiwick/model.does", "bailiwick/sched.kinds"], apart := false, laid := [("bailiwick/model.does", laid_bailiwick_model_does), ("bailiwick/sched.kinds", laid_bailiwick_sched_kinds)], narrowed := true }
def SchedPicksUptoSaid : Prop := schedPicksUptoRow.holds Tryz.pinned (OpenSpec.upto schedPicksSpec)

/-- 'bailiwicklaw25.SchedGood', WHERE WHAT IT READS IS OF BULK AT MOST 1048576: true; the input reads as it did. -/
def schedGoodUptoRow : OpenClaim := { program := "yteplichagkpciaagreatdoor", sum := "bcd11210cdfb93587e709136c508ee5cfcb27cfa9322f222529248f197cd520a", func := "bailiwick/bailiwicklaw25.SchedGood", spec := "schedGood", unfollowed := true, recurses := true, named := ["bailiwick/sched.kinds", "bailiwick/model.does"], apart := false, laid := [("bailiwick/model.does", laid_bailiwick_model_does), ("bailiwick/sched.kinds", laid_bailiwick_sched_kinds)], narrowed := true }
def SchedGoodUptoSaid : Prop := schedGoodUptoRow.holds Tryz.pinned (OpenSpec.upto schedGoodSpec)

/-- 'bailiwicklaw25.SchedTurns', WHERE WHAT IT READS IS OF BULK AT MOST 1048576: true; the input reads as it did. -/
def schedTurnsUptoRow : OpenClaim := { program := "yteplichagkpciaagreatdoor", sum := "bcd11210cdfb93587e709136c508ee5cfcb27cfa9322f222529248f197cd520a", func := "bailiwick/bailiwicklaw25.SchedTurns", spec := "schedTurns", unfollowed := true, recurses := true, named := ["bailiwick/model.does", "bailiwick/sched.kinds"], apart := false, laid := [("bailiwick/model.does", laid_bailiwick_model_does), ("bailiwick/sched.kinds", laid_bailiwick_sched_kinds)], narrowed := true }
def SchedTurnsUptoSaid : Prop := schedTurnsUptoRow.holds Tryz.pinned (OpenSpec.upto schedTurnsSpec)

/-- 'bailiwicklaw21.PartsAll', WHERE WHAT IT READS IS OF BULK AT MOST 1048576: true; the input reads as it did. -/
def partsAllUptoRow : OpenClaim := { program := "yteplichagkpciaagreatdoor", sum := "bcd11210cdfb93587e709136c508ee5cfcb27cfa9322f222529248f197cd520a", func := "bailiwick/bailiwicklaw21.PartsAll", spec := "partsAll", unfollowed := true, recurses := true, named := ["bailiwick/model.does"], apart := false, laid := [("bailiwick/model.does", laid_bailiwick_model_does)], narrowed := true }
def PartsAllUptoSaid : Prop := partsAllUptoRow.holds Tryz.pinned (OpenSpec.upto partsAllSpec)

/-- 'bailiwicklaw19.MachineAgain', WHERE WHAT IT READS IS OF BULK AT MOST 1048576: true; the input reads as it did. -/
def machineAgainUptoRow : OpenClaim := { program := "yteplichagkpciaagreatdoor", sum := "bcd11210cdfb93587e709136c508ee5cfcb27cfa9322f222529248f197cd520a", func := "bailiwick/bailiwicklaw19.MachineAgain", spec := "machineAgain", unfollowed := true, recurses := true, named := ["bailiwick/model.does"], apart := false, laid := [("bailiwick/model.does", laid_bailiwick_model_does)], narrowed := true }
def MachineAgainUptoSaid : Prop := machineAgainUptoRow.holds Tryz.pinned (OpenSpec.upto machineAgainSpec)

/-- 'bailiwicklaw21.PartsTell', WHERE WHAT IT READS IS OF BULK AT MOST 1048576: true; the input reads as it did. -/
def partsTellUptoRow : OpenClaim := { program := "yteplichagkpciaagreatdoor", sum := "bcd11210cdfb93587e709136c508ee5cfcb27cfa9322f222529248f197cd520a", func := "bailiwick/bailiwicklaw21.PartsTell", spec := "partsTell", unfollowed := true, recurses := true, named := ["bailiwick/model.does"], apart := false, laid := [("bailiwick/model.does", laid_bailiwick_model_does)], narrowed := true }
def PartsTellUptoSaid : Prop := partsTellUptoRow.holds Tryz.pinned (OpenSpec.upto partsTellSpec)

end Rows
end Go.Proofs.YteplichagkpciaaGreatDoor
