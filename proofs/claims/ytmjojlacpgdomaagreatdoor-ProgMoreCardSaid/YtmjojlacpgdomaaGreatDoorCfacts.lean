import Derived.Test.YtmjojlacpgdomaaGreatDoorCards
import Derived.SevenTiedAt
/-! The closed facts of the card. -/
namespace Go.Proofs.YtmjojlacpgdomaaGreatDoor
set_option linter.unusedSimpArgs false
set_option linter.unusedVariables false
open Go
theorem more_name : Tryz.prog.funcNamed "septum/septumlaw23.ProgMore" = some 3 := by kernel_rfl
theorem more_wf : Rows.progMoreRow.wfByText (OpenSpec.ofChange Rows.progMoreSpec) = true := by kernel_rfl
theorem more_main : Tryz.pinned.checked.prog.mainIs = some (true, "fccbd746c9987bcd556708ee478e1ca775cebd762a5a31886372b8b49cac1815".toList) := by kernel_rfl
theorem more_looks : true = Tryz.pinned.checked.prog.looks [] := by kernel_rfl
theorem more_stand : ([22, 33].all fun u => !Tryz.prog.wantsStandIn u) = true := by kernel_rfl
theorem more_goes : false = Rows.progMoreRow.goesBy Tryz.pinned.checked.prog := by kernel_rfl
theorem more_inst : Tryz.f3.isInstance Tryz.pinned.checked.prog Rows.progMoreRow.origin Rows.progMoreRow.targs := of_decide_eq_true (by kernel_rfl)
theorem more_wrap : Tryz.f3.isWrapper Tryz.pinned.checked.prog Rows.progMoreRow.wrapper Rows.progMoreRow.mainSum := by
  unfold Func.isWrapper; first | (rw [if_pos (by decide +kernel)]; kernel_rfl) | (rw [if_neg (by decide +kernel)]; exact ⟨rfl, rfl⟩)
end Go.Proofs.YtmjojlacpgdomaaGreatDoor
