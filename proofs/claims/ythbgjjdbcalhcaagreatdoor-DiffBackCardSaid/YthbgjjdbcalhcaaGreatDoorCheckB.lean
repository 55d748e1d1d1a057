/- The second part of the laws' own check (no conditions). -/
import Derived.Test.YthbgjjdbcalhcaaGreatDoorCheckA
set_option linter.unusedVariables false
set_option linter.unusedSimpArgs false
set_option linter.unusedSectionVars false
set_option linter.deprecated false

/- The law's own check, tokens. -/
namespace Go.Proofs.YthbgjjdbcalhcaaGreatDoor
open Go Go.Den
set_option maxRecDepth 100000
theorem tokens_F : isLit (kF0 3000 (.fn (.func fn_Pdump_dumper_tokens) [] []) argsD (FS.enc S1)) (.tup []) S2 = true := by kernel_rfl
end Go.Proofs.YthbgjjdbcalhcaaGreatDoor
