/- The table of known calls, behind level 0. -/
import Derived.Test.YtimpkpgndnchiaaGreatDoorK0a
import Derived.Test.YtimpkpgndnchiaaGreatDoorK0b
set_option maxRecDepth 100000
set_option linter.unusedVariables false
noncomputable section
namespace Pk
open Go Go.Proofs
def T1 : MTab := [(174, [m0_0, m0_1, m0_2, m0_3, m0_4, m0_5, m0_6, m0_7, m0_8, m0_9, m0_10, m0_11, m0_12, m0_13, m0_14, m0_15])]
theorem T1_ok : GoodT Go.Proofs.Tryz.prog (some 105) T1 :=
  ⟨⟨⟨rfl, mok T0_ok m0_0_ok⟩, ⟨⟨rfl, mok T0_ok m0_1_ok⟩, ⟨⟨rfl, mok T0_ok m0_2_ok⟩, ⟨⟨rfl, mok T0_ok m0_3_ok⟩, ⟨⟨rfl, mok T0_ok m0_4_ok⟩, ⟨⟨rfl, mok T0_ok m0_5_ok⟩, ⟨⟨rfl, mok T0_ok m0_6_ok⟩, ⟨⟨rfl, mok T0_ok m0_7_ok⟩, ⟨⟨rfl, mok T0_ok m0_8_ok⟩, ⟨⟨rfl, mok T0_ok m0_9_ok⟩, ⟨⟨rfl, mok T0_ok m0_10_ok⟩, ⟨⟨rfl, mok T0_ok m0_11_ok⟩, ⟨⟨rfl, mok T0_ok m0_12_ok⟩, ⟨⟨rfl, mok T0_ok m0_13_ok⟩, ⟨⟨rfl, mok T0_ok m0_14_ok⟩, ⟨⟨rfl, mok T0_ok m0_15_ok⟩, trivial⟩⟩⟩⟩⟩⟩⟩⟩⟩⟩⟩⟩⟩⟩⟩⟩, trivial⟩
end Pk
