/- Known calls, level 2. -/
import Derived.Test.YtimpkpgndnchiaaGreatDoorKT2
set_option maxRecDepth 100000
set_option linter.unusedVariables false
noncomputable section
namespace Pk
open Go Go.Proofs
def m2_0 : Memo := ⟨219, [.agg [.int .u32 (.ofNat 0), .int .i64 (.ofNat 0), .int .u32 (.ofNat 2), .int .u32 (.ofNat 0), .int .u32 (.ofNat 1), .int .u32 (.ofNat 0), .int .u32 (.ofNat 0), .int .u32 (.ofNat 0), .int .u64 (.ofNat 5), .int .u32 (.ofNat 6), .int .u64 (.ofNat 7)]], [], 0, .tup [.slice 0 0 21 21 false, .int .i64 (.ofNat 0)], [.cells [.int .u8 (.ofNat 136), .int .u8 (.ofNat 7), .int .u8 (.ofNat 0), .int .u8 (.ofNat 0), .int .u8 (.ofNat 130), .int .u8 (.ofNat 2), .int .u8 (.ofNat 130), .int .u8 (.ofNat 2), .int .u8 (.ofNat 0), .int .u8 (.ofNat 130), .int .u8 (.ofNat 2), .int .u8 (.ofNat 130), .int .u8 (.ofNat 1), .int .u8 (.ofNat 0), .int .u8 (.ofNat 130), .int .u8 (.ofNat 1), .int .u8 (.ofNat 0), .int .u8 (.ofNat 130), .int .u8 (.ofNat 5), .int .u8 (.ofNat 6), .int .u8 (.ofNat 7)] 5 true 1]⟩
theorem m2_0_ok : memoRun (envT T2) (some 105) 3000 m2_0 = true := by kernel_rfl
def m2_1 : Memo := ⟨219, [.agg [.int .u32 (.ofNat 0), .int .i64 (.ofNat 0), .int .u32 (.ofNat 2), .int .u32 (.ofNat 0), .int .u32 (.ofNat 1), .int .u32 (.ofNat 0), .int .u32 (.ofNat 0), .int .u32 (.ofNat 0), .int .u64 (.ofNat 5), .int .u32 (.ofNat 7), .int .u64 (.ofNat 7)]], [], 0, .tup [.slice 0 0 21 21 false, .int .i64 (.ofNat 0)], [.cells [.int .u8 (.ofNat 136), .int .u8 (.ofNat 7), .int .u8 (.ofNat 0), .int .u8 (.ofNat 0), .int .u8 (.ofNat 130), .int .u8 (.ofNat 2), .int .u8 (.ofNat 130), .int .u8 (.ofNat 2), .int .u8 (.ofNat 0), .int .u8 (.ofNat 130), .int .u8 (.ofNat 2), .int .u8 (.ofNat 130), .int .u8 (.ofNat 1), .int .u8 (.ofNat 0), .int .u8 (.ofNat 130), .int .u8 (.ofNat 1), .int .u8 (.ofNat 0), .int .u8 (.ofNat 130), .int .u8 (.ofNat 5), .int .u8 (.ofNat 7), .int .u8 (.ofNat 7)] 5 true 1]⟩
theorem m2_1_ok : memoRun (envT T2) (some 105) 3000 m2_1 = true := by kernel_rfl
end Pk
