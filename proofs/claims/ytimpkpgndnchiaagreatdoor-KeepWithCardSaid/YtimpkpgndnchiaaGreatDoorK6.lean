/- Known calls, level 6. -/
import Derived.Test.YtimpkpgndnchiaaGreatDoorKT6
set_option maxRecDepth 100000
set_option linter.unusedVariables false
noncomputable section
namespace Pk
open Go Go.Proofs
def m6_0 : Memo := ⟨7, [], [], 0, .bool true, []⟩
theorem m6_0_ok : memoRun (envT T6) (some 105) 3000 m6_0 = true := by kernel_rfl
end Pk
