/-
  septumlaw23.ProgMore is true of every input: for every slice of instructions and every instruction, with one instruction more behind it a right program is right as long as there is room, and without its last one it is if no To is behind its end then; the input reads as it did.
  Conditions: the listed variables of Go's library hold what the program's text lays in them (tied by the card); no other.
-/
import Derived.Test.YtmjojlacpgdomaaGreatDoorCrow
import Derived.Lay
import Derived.Stop.Joined
namespace Go.Proofs.YtmjojlacpgdomaaGreatDoor
set_option linter.unusedSimpArgs false
set_option linter.unusedVariables false
open Go Go.ChangeShapes Go.WideShapes Go.ChangeAt Go.RowKit
noncomputable def startW (os : Os) : World := World.laidAll Tryz.prog os Rows.progMoreRow.laid
theorem start_met (os : Os) (args : Array Value) : laidMetH Tryz.prog Rows.progMoreRow.laid ((startW os).forCall (fun _ _ => 0) ⟨#[], args, []⟩).memory := by
  rw [MakeChecks.laidMetH_plain _ _ _ (by kernel_rfl)]
  exact laidMet_laidAll _ (by kernel_rfl) (by kernel_rfl)
theorem start_shaped (os : Os) (args : Array Value) : ((startW os).forCall (fun _ _ => 0) ⟨#[], args, []⟩).Shaped Tryz.prog := World.shaped_of_ZipB (by kernel_rfl) (by kernel_rfl)
end Go.Proofs.YtmjojlacpgdomaaGreatDoor
