/-
  septumlaw23.ProgMore is true of every input: for every slice of instructions and every instruction, with one instruction more behind it a right program is right as long as there is room, and without its last one it is if no To is behind its end then; the input reads as it did.
  Conditions: the listed variables of Go's library hold what the program's text lays in them (tied by the card); no other.
-/
import Derived.Test.YtmjojlacpgdomaaGreatDoorClift
import Derived.Test.YtmjojlacpgdomaaGreatDoorCclosed
import Derived.Test.YtmjojlacpgdomaaGreatDoorCfacts
import Derived.Test.YtmjojlacpgdomaaGreatDoorTie
namespace Go.Proofs.YtmjojlacpgdomaaGreatDoor
set_option linter.unusedSimpArgs false
set_option linter.unusedVariables false
open Go
theorem progMore_holds : Rows.ProgMoreSaid :=
  OpenClaim.holds_of_wide 3 Tryz.f3 rfl rfl rfl rfl rfl rfl rfl ⟨rfl, rfl, rfl, rfl, rfl⟩ rfl rfl rfl rfl rfl more_name Tryz.func3 more_closed more_inst more_wrap
    (fun os started H enc _ => more_lifted os started H enc)
theorem progMore_card : Rows.ProgMoreCardSaid :=
  Claim7.holds_tied_plain_at .later [] [.data, .data, .data, .data, .sentinel, .sentinel, .pinned] true (true, "fccbd746c9987bcd556708ee478e1ca775cebd762a5a31886372b8b49cac1815") true
    progMore_holds (fun _ h => by cases h) more_wf (fun _ h => by cases h) progMore_row_tie rfl ⟨rfl, rfl⟩ more_main rfl
    (fun f fn hf hfn => by
      obtain rfl : f = 3 := Option.some.inj (more_name.symm.trans hf) |>.symm
      obtain rfl : fn = Tryz.f3 := (Option.some.inj (Tryz.func3.symm.trans hfn)).symm
      exact ⟨more_looks, fun j t ht => by
        rw [Tryz.params3] at ht
        have hm : t ∈ [22, 33] := by simpa using Array.mem_of_getElem? ht
        exact (show Tryz.prog.wantsStandIn t = false by simpa using List.all_eq_true.1 more_stand t hm)⟩)
    more_goes
#print axioms progMore_card
end Go.Proofs.YtmjojlacpgdomaaGreatDoor
