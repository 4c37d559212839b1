/- The abstract run of this program: tables, environments. -/
import Derived.Test.YtimpkpgndnchiaaGreatDoorPkG
import Derived.Test.YtimpkpgndnchiaaGreatDoorProg
import Derived.KernelRfl
set_option maxRecDepth 100000
set_option linter.unusedVariables false
noncomputable section
namespace Pk
open Go Go.Proofs
def TT0 : Tr TypeInfo := build Go.Proofs.Tryz.prog.types.toList 0 .nil
def FT0 : Tr Func := build Go.Proofs.Tryz.prog.funcs.toList 0 .nil
def envT (T : MTab) : Env := { P := Go.Proofs.Tryz.prog, TT := TT0, FT := FT0, pc := [], ctr := ctrT T }
theorem noNum : (Go.Proofs.Tryz.prog.funcs.toList.all fun fn => decide (fn.name ≠ "runtime.NumGoroutine")) = true := by kernel_rfl
theorem mixedOk : Go.Proofs.Tryz.prog.follows .mixedOrders = true := by kernel_rfl
theorem envT_ok (T : MTab) : EnvOK (envT T) := envOK_of rfl rfl noNum mixedOk
theorem cloneOk : CloneAt Go.Proofs.Tryz.prog (some 105) := by
  intro f hf
  cases hf
  exact ⟨Go.Proofs.Tryz.f105, Go.Proofs.Tryz.func105, by decide +kernel, by kernel_rfl, by kernel_rfl, by kernel_rfl⟩
theorem soundT {T : MTab} (h : GoodT Go.Proofs.Tryz.prog (some 105) T) : Sound (envT T) (some 105) := sound_of (envT_ok T) rfl cloneOk rfl h
theorem mok {T : MTab} (h : GoodT Go.Proofs.Tryz.prog (some 105) T) {M : Memo} (hr : memoRun (envT T) (some 105) 3000 M = true) : MOK Go.Proofs.Tryz.prog (some 105) M := ⟨envT T, 3000, rfl, soundT h, hr⟩
def T0 : MTab := []
theorem T0_ok : GoodT Go.Proofs.Tryz.prog (some 105) T0 := trivial
end Pk
