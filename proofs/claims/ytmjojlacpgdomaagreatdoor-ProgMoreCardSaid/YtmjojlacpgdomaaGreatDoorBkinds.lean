import Derived.Test.YtmjojlacpgdomaaGreatDoorAconf
import Derived.Test.YtmjojlacpgdomaaGreatDoorAshape
import Derived.Test.YtmjojlacpgdomaaGreatDoorBmap
import Derived.WideMake
/-! The map of all Ops. -/
namespace Go.Proofs.YtmjojlacpgdomaaGreatDoor
set_option linter.unusedSimpArgs false
set_option linter.unusedVariables false
open Go Go.RowKit
def kindV (w : List UInt8) (f : Nat) : Value := .agg #[.string ⟨w.toArray⟩, .func (.func f) #[] #[]]
def kindEs (n : Nat) : Array MapEntry := (List.take n [⟨.int .i64 1, kindV [108, 111, 97, 100] 105, 0⟩, ⟨.int .i64 2, kindV [115, 116, 111, 114, 101] 106, 1⟩, ⟨.int .i64 3, kindV [112, 117, 116] 105, 2⟩, ⟨.int .i64 4, kindV [119, 97, 105, 116] 107, 3⟩, ⟨.int .i64 5, kindV [98, 114, 97, 110, 99, 104] 108, 4⟩, ⟨.int .i64 6, kindV [106, 117, 109, 112] 109, 5⟩, ⟨.int .i64 7, kindV [105, 100, 108, 101] 110, 6⟩, ⟨.int .i64 8, kindV [109, 97, 115, 107] 111, 7⟩, ⟨.int .i64 9, kindV [99, 111, 110, 102] 112, 8⟩, ⟨.int .i64 10, kindV [104, 97, 108, 116] 107, 9⟩]).toArray
set_option maxRecDepth 100000 in
set_option maxHeartbeats 1000000 in
theorem mapKinds_any (w : World) : Calls Tryz.prog 45 #[] w fun e w' => e = .returned (.map (some w.heap.size)) ∧ w' = w.alloc (.map (kindEs 10) 10) := by
  have hmm := run_makeMap_plain (P := Tryz.prog) w 85
  have hi0 : (Instr.mapUpdate 85 (.map (some w.heap.size)) (.int .i64 1) (.agg #[.string { data := #[108, 111, 97, 100] }, .func (.func 105) #[] #[]])).run Tryz.prog (w.alloc (.map #[] 0)) = .ok () (w.alloc (.map (kindEs 1) 1)) := run_insert_new w (es := kindEs 0) Tryz.underlying85 Tryz.underlying23 rfl
  have hi1 : (Instr.mapUpdate 85 (.map (some w.heap.size)) (.int .i64 2) (.agg #[.string { data := #[115, 116, 111, 114, 101] }, .func (.func 106) #[] #[]])).run Tryz.prog (w.alloc (.map (kindEs 1) 1)) = .ok () (w.alloc (.map (kindEs 2) 2)) := run_insert_new w (es := kindEs 1) Tryz.underlying85 Tryz.underlying23 rfl
  have hi2 : (Instr.mapUpdate 85 (.map (some w.heap.size)) (.int .i64 3) (.agg #[.string { data := #[112, 117, 116] }, .func (.func 105) #[] #[]])).run Tryz.prog (w.alloc (.map (kindEs 2) 2)) = .ok () (w.alloc (.map (kindEs 3) 3)) := run_insert_new w (es := kindEs 2) Tryz.underlying85 Tryz.underlying23 rfl
  have hi3 : (Instr.mapUpdate 85 (.map (some w.heap.size)) (.int .i64 4) (.agg #[.string { data := #[119, 97, 105, 116] }, .func (.func 107) #[] #[]])).run Tryz.prog (w.alloc (.map (kindEs 3) 3)) = .ok () (w.alloc (.map (kindEs 4) 4)) := run_insert_new w (es := kindEs 3) Tryz.underlying85 Tryz.underlying23 rfl
  have hi4 : (Instr.mapUpdate 85 (.map (some w.heap.size)) (.int .i64 5) (.agg #[.string { data := #[98, 114, 97, 110, 99, 104] }, .func (.func 108) #[] #[]])).run Tryz.prog (w.alloc (.map (kindEs 4) 4)) = .ok () (w.alloc (.map (kindEs 5) 5)) := run_insert_new w (es := kindEs 4) Tryz.underlying85 Tryz.underlying23 rfl
  have hi5 : (Instr.mapUpdate 85 (.map (some w.heap.size)) (.int .i64 6) (.agg #[.string { data := #[106, 117, 109, 112] }, .func (.func 109) #[] #[]])).run Tryz.prog (w.alloc (.map (kindEs 5) 5)) = .ok () (w.alloc (.map (kindEs 6) 6)) := run_insert_new w (es := kindEs 5) Tryz.underlying85 Tryz.underlying23 rfl
  have hi6 : (Instr.mapUpdate 85 (.map (some w.heap.size)) (.int .i64 7) (.agg #[.string { data := #[105, 100, 108, 101] }, .func (.func 110) #[] #[]])).run Tryz.prog (w.alloc (.map (kindEs 6) 6)) = .ok () (w.alloc (.map (kindEs 7) 7)) := run_insert_new w (es := kindEs 6) Tryz.underlying85 Tryz.underlying23 rfl
  have hi7 : (Instr.mapUpdate 85 (.map (some w.heap.size)) (.int .i64 8) (.agg #[.string { data := #[109, 97, 115, 107] }, .func (.func 111) #[] #[]])).run Tryz.prog (w.alloc (.map (kindEs 7) 7)) = .ok () (w.alloc (.map (kindEs 8) 8)) := run_insert_new w (es := kindEs 7) Tryz.underlying85 Tryz.underlying23 rfl
  have hi8 : (Instr.mapUpdate 85 (.map (some w.heap.size)) (.int .i64 9) (.agg #[.string { data := #[99, 111, 110, 102] }, .func (.func 112) #[] #[]])).run Tryz.prog (w.alloc (.map (kindEs 8) 8)) = .ok () (w.alloc (.map (kindEs 9) 9)) := run_insert_new w (es := kindEs 8) Tryz.underlying85 Tryz.underlying23 rfl
  have hi9 : (Instr.mapUpdate 85 (.map (some w.heap.size)) (.int .i64 10) (.agg #[.string { data := #[104, 97, 108, 116] }, .func (.func 107) #[] #[]])).run Tryz.prog (w.alloc (.map (kindEs 9) 9)) = .ok () (w.alloc (.map (kindEs 10) 10)) := run_insert_new w (es := kindEs 9) Tryz.underlying85 Tryz.underlying23 rfl
  go_enter Tryz.func45, Tryz.ntmps45
  go_wp2
  go_ret
  exact ⟨rfl, rfl⟩
end Go.Proofs.YtmjojlacpgdomaaGreatDoor
