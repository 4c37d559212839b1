/-
  DERIVED. GIVEN WITH THE SEED: THE CARDS: each row of YtimpkpgndnchiaaGreatDoorRows.lean that lists a variable, with what it lists TIED to the program's text (the seventh form; the later family's looks); each row that meets fmt, with fmt's text TOLD by the authors' own Lean function (tested against real Go, not proved from fmt's source: count such statements apart). THE CARD IS WHAT COUNTS. Prove the row's statement (the work); the ties are given (YtimpkpgndnchiaaGreatDoorTie.lean); close each card by the builder's one call (the guide's Derived/Test/ToyasCard.lean, 'card_holds'). Laid BY PROGRAM, IN A SANDBOX (cutbox-door.mjs). By AI agents, Wed Nov 11 2026. No macro, syntax, notation, axiom, sorry.
-/
import Derived.Test.YtimpkpgndnchiaaGreatDoorRows
import GoSem.ClaimSeven
namespace Go.Proofs.YtimpkpgndnchiaaGreatDoor
namespace Rows

/-- THE TIED CARD OF 'packsaddlelaw16.KeepWith'. -/
def keepWithCard : Claim7 := { stood := { row := keepWithRow, standIns := [], harness := (true, "69ea2b05b525e8a74ec45d80fac07466a3894bbe46832c0f4ed7003eb664d3eb"), looks := true }, kinds := [], alts := [], laidByText := true, laidKinds := [.data, .pinned], laidTests := true, laidLooks := .later }
def KeepWithCardSaid : Prop := Claim7.holds Tryz.pinned (.plain (OpenSpec.ofChange keepWithSpec)) keepWithCard

/-- THE SECOND FORM's CARD OF 'packsaddlelaw16.KeepWith'. -/
def keepWithUptoCard : Claim7 := { stood := { row := keepWithUptoRow, standIns := [], harness := (true, "69ea2b05b525e8a74ec45d80fac07466a3894bbe46832c0f4ed7003eb664d3eb"), looks := true }, kinds := [], alts := [], laidByText := true, laidKinds := [.data, .pinned], laidTests := true, laidLooks := .later }
def KeepWithUptoCardSaid : Prop := Claim7.holds Tryz.pinned (.plain (OpenSpec.upto keepWithSpec)) keepWithUptoCard
end Rows
end Go.Proofs.YtimpkpgndnchiaaGreatDoor
