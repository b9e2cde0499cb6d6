import Derived.Test.YtmjojlacpgdomaaGreatDoorBinstr5
/-! prog.Line: join -/
namespace Go.Proofs.YtmjojlacpgdomaaGreatDoor
set_option linter.unusedSimpArgs false
set_option linter.unusedVariables false
open Go Go.RowKit
attribute [local go_sem] setRow_new setRow_old
theorem join55 (w : World) (B : Nat) (v : Value) (ws : List (List UInt8)) (hown : Own w B v ws) (hsmall : ws.length ≤ 1000) (hlen : (Lib.join ws [32]).length ≤ 140737488355328) :
    Calls Tryz.prog 55 #[v, .string ⟨#[32]⟩] w fun e w' => e = .returned (.string ⟨(Lib.join ws [32]).toArray⟩) ∧ Below w.heap.size w w' := join_own w B v ws.length 32 ws rfl hown hsmall hlen
end Go.Proofs.YtmjojlacpgdomaaGreatDoor
