/- The table of known calls, behind level 2. -/
import Derived.Test.YtimpkpgndnchiaaGreatDoorK2
set_option maxRecDepth 100000
set_option linter.unusedVariables false
noncomputable section
namespace Pk
open Go Go.Proofs
def T3 : MTab := [(174, [m0_0, m0_1, m0_2, m0_3, m0_4, m0_5, m0_6, m0_7, m0_8, m0_9, m0_10, m0_11, m0_12, m0_13, m0_14, m0_15]), (169, [m1_0, m1_1, m1_2, m1_3, m1_4, m1_5, m1_6, m1_7, m1_8, m1_9, m1_10, m1_11]), (219, [m2_0, m2_1])]
theorem T3_ok : GoodT Go.Proofs.Tryz.prog (some 105) T3 :=
  ⟨⟨⟨rfl, mok T0_ok m0_0_ok⟩, ⟨⟨rfl, mok T0_ok m0_1_ok⟩, ⟨⟨rfl, mok T0_ok m0_2_ok⟩, ⟨⟨rfl, mok T0_ok m0_3_ok⟩, ⟨⟨rfl, mok T0_ok m0_4_ok⟩, ⟨⟨rfl, mok T0_ok m0_5_ok⟩, ⟨⟨rfl, mok T0_ok m0_6_ok⟩, ⟨⟨rfl, mok T0_ok m0_7_ok⟩, ⟨⟨rfl, mok T0_ok m0_8_ok⟩, ⟨⟨rfl, mok T0_ok m0_9_ok⟩, ⟨⟨rfl, mok T0_ok m0_10_ok⟩, ⟨⟨rfl, mok T0_ok m0_11_ok⟩, ⟨⟨rfl, mok T0_ok m0_12_ok⟩, ⟨⟨rfl, mok T0_ok m0_13_ok⟩, ⟨⟨rfl, mok T0_ok m0_14_ok⟩, ⟨⟨rfl, mok T0_ok m0_15_ok⟩, trivial⟩⟩⟩⟩⟩⟩⟩⟩⟩⟩⟩⟩⟩⟩⟩⟩, ⟨⟨⟨rfl, mok T1_ok m1_0_ok⟩, ⟨⟨rfl, mok T1_ok m1_1_ok⟩, ⟨⟨rfl, mok T1_ok m1_2_ok⟩, ⟨⟨rfl, mok T1_ok m1_3_ok⟩, ⟨⟨rfl, mok T1_ok m1_4_ok⟩, ⟨⟨rfl, mok T1_ok m1_5_ok⟩, ⟨⟨rfl, mok T1_ok m1_6_ok⟩, ⟨⟨rfl, mok T1_ok m1_7_ok⟩, ⟨⟨rfl, mok T1_ok m1_8_ok⟩, ⟨⟨rfl, mok T1_ok m1_9_ok⟩, ⟨⟨rfl, mok T1_ok m1_10_ok⟩, ⟨⟨rfl, mok T1_ok m1_11_ok⟩, trivial⟩⟩⟩⟩⟩⟩⟩⟩⟩⟩⟩⟩, ⟨⟨⟨rfl, mok T2_ok m2_0_ok⟩, ⟨⟨rfl, mok T2_ok m2_1_ok⟩, trivial⟩⟩, trivial⟩⟩⟩
end Pk
