/- The fourth part of the laws' own check (no conditions). -/
import Derived.Test.YthbgjjdbcalhcaaGreatDoorCheckC
set_option linter.unusedVariables false
set_option linter.unusedSimpArgs false
set_option linter.unusedSectionVars false
set_option linter.deprecated false

/- The laws' own check, the second dump, tokens. -/
namespace Go.Proofs.YthbgjjdbcalhcaaGreatDoor
open Go Go.Den
set_option maxRecDepth 100000
theorem tokensL_F : isLit (kF0 3000 (.fn (.func fn_Pdump_dumper_tokens) [] []) argsL (FS.enc T1)) (.tup []) T2 = true := by kernel_rfl
end Go.Proofs.YthbgjjdbcalhcaaGreatDoor
