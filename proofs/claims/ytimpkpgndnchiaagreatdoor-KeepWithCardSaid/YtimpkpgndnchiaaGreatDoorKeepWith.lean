/- KeepWith holds: called with any quota and any counts it returns true, and its arguments read as before. No condition. -/
import Derived.Test.YtimpkpgndnchiaaGreatDoorKwRun
import Derived.Test.YtimpkpgndnchiaaGreatDoorKwClosed
set_option maxRecDepth 100000
namespace Go.Proofs.YtimpkpgndnchiaaGreatDoor
open Go.ChangeShapes Go.WideShapes Go.ChangeAt Go.RowKit Pk

theorem keepWith_holds : Rows.KeepWithSaid :=
  OpenClaim.holds_of_wide 3 Tryz.f3 rfl rfl rfl rfl rfl rfl rfl ⟨rfl, rfl, rfl, rfl, rfl⟩ rfl rfl rfl rfl rfl (by kernel_rfl) Tryz.func3 closed
    (of_decide_eq_true (by kernel_rfl)) (by unfold Func.isWrapper; first | (rw [if_pos (by decide +kernel)]; kernel_rfl) | (rw [if_neg (by decide +kernel)]; exact ⟨rfl, rfl⟩))
    (fun os started H enc _ => lifted os started H enc)

theorem keepWith_card : Rows.KeepWithCardSaid :=
  Claim7.holds_tied_plain_at .later [] [.data, .pinned] true (true, "69ea2b05b525e8a74ec45d80fac07466a3894bbe46832c0f4ed7003eb664d3eb") true keepWith_holds (fun _ h => by cases h) (by kernel_rfl) (fun _ h => by cases h) keepWith_row_tie rfl ⟨rfl, rfl⟩ (by kernel_rfl) rfl
    (fun f fn hf hfn => by
      obtain rfl : f = 3 := Option.some.inj ((show Tryz.prog.funcNamed "packsaddle/packsaddlelaw16.KeepWith" = some 3 by kernel_rfl).symm.trans hf) |>.symm
      obtain rfl : fn = Tryz.f3 := (Option.some.inj (Tryz.func3.symm.trans hfn)).symm
      exact ⟨by kernel_rfl, fun j t ht => by
        rw [Tryz.params3] at ht
        have hm : t ∈ [3, 23] := by simpa using Array.mem_of_getElem? ht
        have hall : ([3, 23].all fun u => !Tryz.prog.wantsStandIn u) = true := by kernel_rfl
        exact (show Tryz.prog.wantsStandIn t = false by simpa using List.all_eq_true.1 hall t hm)⟩)
    (goesBy_none rfl noGo)
#print axioms keepWith_card
end Go.Proofs.YtimpkpgndnchiaaGreatDoor
