/- Known calls, level 3. -/
import Derived.Test.YtimpkpgndnchiaaGreatDoorKT3
set_option maxRecDepth 100000
set_option linter.unusedVariables false
noncomputable section
namespace Pk
open Go Go.Proofs
def m3_0 : Memo := ⟨176, [.slice 0 0 6 6 false], [.cells [.int .u8 (.ofNat 132), .int .u8 (.ofNat 7), .int .u8 (.ofNat 2), .int .u8 (.ofNat 0), .int .u8 (.ofNat 65), .int .u8 (.ofNat 0)] 5 false 0], 1, .tup [.agg [.int .u64 (.ofNat 7), .int .u64 (.ofNat 2), .int .i64 (.ofNat 0), .slice 1 0 1 1 false], .int .i64 (.ofNat 0)], [.cells [.int .u8 (.ofNat 0)] 5 true 1]⟩
theorem m3_0_ok : memoRun (envT T3) (some 105) 3000 m3_0 = true := by kernel_rfl
def m3_1 : Memo := ⟨176, [.slice 0 0 8 8 false], [.cells [.int .u8 (.ofNat 132), .int .u8 (.ofNat 10), .int .u8 (.ofNat 3), .int .u8 (.ofNat 0), .int .u8 (.ofNat 67), .int .u8 (.ofNat 130), .int .u8 (.ofNat 9), .int .u8 (.ofNat 0)] 5 false 0], 1, .tup [.agg [.int .u64 (.ofNat 10), .int .u64 (.ofNat 3), .int .i64 (.ofNat 0), .slice 1 0 3 3 false], .int .i64 (.ofNat 0)], [.cells [.int .u8 (.ofNat 130), .int .u8 (.ofNat 9), .int .u8 (.ofNat 0)] 5 true 1]⟩
theorem m3_1_ok : memoRun (envT T3) (some 105) 3000 m3_1 = true := by kernel_rfl
def m3_2 : Memo := ⟨176, [.slice 0 0 8 8 false], [.cells [.int .u8 (.ofNat 132), .int .u8 (.ofNat 24), .int .u8 (.ofNat 200), .int .u8 (.ofNat 4), .int .u8 (.ofNat 0), .int .u8 (.ofNat 66), .int .u8 (.ofNat 129), .int .u8 (.ofNat 244)] 5 false 0], 1, .tup [.agg [.int .u64 (.ofNat 200), .int .u64 (.ofNat 4), .int .i64 (.ofNat 0), .slice 1 0 2 2 false], .int .i64 (.ofNat 0)], [.cells [.int .u8 (.ofNat 129), .int .u8 (.ofNat 244)] 5 true 1]⟩
theorem m3_2_ok : memoRun (envT T3) (some 105) 3000 m3_2 = true := by kernel_rfl
def m3_3 : Memo := ⟨176, [.slice 0 0 7 7 false], [.cells [.int .u8 (.ofNat 132), .int .u8 (.ofNat 1), .int .u8 (.ofNat 1), .int .u8 (.ofNat 0), .int .u8 (.ofNat 66), .int .u8 (.ofNat 104), .int .u8 (.ofNat 105)] 5 false 0], 1, .tup [.agg [.int .u64 (.ofNat 1), .int .u64 (.ofNat 1), .int .i64 (.ofNat 0), .slice 1 0 2 2 false], .int .i64 (.ofNat 0)], [.cells [.int .u8 (.ofNat 104), .int .u8 (.ofNat 105)] 5 true 1]⟩
theorem m3_3_ok : memoRun (envT T3) (some 105) 3000 m3_3 = true := by kernel_rfl
end Pk
