import Derived.Test.YtmjojlacpgdomaaGreatDoorRows
import Derived.JoinedOf
import Derived.ClosedOfChecked
/-! The closed facts of the row, each a theorem of its own (together they outgrow the kernel's lid). -/
namespace Go.Proofs.YtmjojlacpgdomaaGreatDoor
set_option linter.unusedSimpArgs false
set_option linter.unusedVariables false
open Go
theorem types_src : Tryz.checked.prog.types = Tryz.checked.src.types := by kernel_rfl
theorem rest_rows : (Tryz.checked.prog.globals.all (fun g => decide (g.type < Tryz.checked.prog.types.size)) && Tryz.checked.prog.funcs.all (fun f => f.params.all fun t => decide (t < Tryz.checked.prog.types.size))) = true := by kernel_rfl
theorem keys_walk : ClosedOfChecked.keysListB Tryz.checked.prog = true := by kernel_rfl
theorem three_closed : laidOutB Tryz.prog = true ∧ mapsRowed Tryz.prog = true ∧ Tryz.prog.plainKeys = true := ClosedOfChecked.closed_of_checked Tryz.checked types_src rest_rows keys_walk
theorem more_inPlace : Tryz.prog.inPlace 3 = Rows.progMoreRow.inPlace := by kernel_rfl
theorem more_unfollowed : Tryz.prog.unfollowed 3 = Rows.progMoreRow.unfollowed := by kernel_rfl
theorem more_recurses : Tryz.prog.recurses 3 = Rows.progMoreRow.recurses := by kernel_rfl
theorem more_named : Tryz.prog.varsNamed 3 = Rows.progMoreRow.named := by kernel_rfl
theorem more_closed : joinedFacts Tryz.prog 3 Tryz.f3 Rows.progMoreSpec Rows.progMoreRow = true := by
  unfold joinedFacts
  rw [three_closed.1, three_closed.2.1, three_closed.2.2, more_inPlace, more_unfollowed, more_recurses, more_named]
  kernel_rfl
end Go.Proofs.YtmjojlacpgdomaaGreatDoor
