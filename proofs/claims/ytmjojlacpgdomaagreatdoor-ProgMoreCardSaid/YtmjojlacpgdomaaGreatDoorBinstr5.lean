import Derived.Test.YtmjojlacpgdomaaGreatDoorBcread
import Derived.Test.YtmjojlacpgdomaaGreatDoorBinstr2
import Derived.Test.YtmjojlacpgdomaaGreatDoorBinstr3
import Derived.Test.YtmjojlacpgdomaaGreatDoorBinstr4
/-! prog.Instr -/
namespace Go.Proofs.YtmjojlacpgdomaaGreatDoor
set_option linter.unusedSimpArgs false
set_option linter.unusedVariables false
open Go Go.RowKit
attribute [local go_sem] setRow_new setRow_old
theorem find_none (op : Int) (h : ∀ j : Int, 1 ≤ j → j ≤ 10 → op ≠ j) : Instr.findNow (.int .i64) (.int .i64 op) (kindEs 10).toList 0 = some none := by
  have h1 : (op == 1) = false := beq_eq_false_iff_ne.2 (h 1 (by omega) (by omega))
  have h2 : (op == 2) = false := beq_eq_false_iff_ne.2 (h 2 (by omega) (by omega))
  have h3 : (op == 3) = false := beq_eq_false_iff_ne.2 (h 3 (by omega) (by omega))
  have h4 : (op == 4) = false := beq_eq_false_iff_ne.2 (h 4 (by omega) (by omega))
  have h5 : (op == 5) = false := beq_eq_false_iff_ne.2 (h 5 (by omega) (by omega))
  have h6 : (op == 6) = false := beq_eq_false_iff_ne.2 (h 6 (by omega) (by omega))
  have h7 : (op == 7) = false := beq_eq_false_iff_ne.2 (h 7 (by omega) (by omega))
  have h8 : (op == 8) = false := beq_eq_false_iff_ne.2 (h 8 (by omega) (by omega))
  have h9 : (op == 9) = false := beq_eq_false_iff_ne.2 (h 9 (by omega) (by omega))
  have h10 : (op == 10) = false := beq_eq_false_iff_ne.2 (h 10 (by omega) (by omega))
  simp [kindEs, Instr.findNow, Instr.sameNow, h1, h2, h3, h4, h5, h6, h7, h8, h9, h10]
/-- prog.Instr. -/
theorem instr_any (x : Ins) (hf : x.Fit) (w : World) : Calls Tryz.prog 15 #[.agg x.cells.toArray] w fun e w' => e = .returned (.bool (insRight x)) ∧ Below w.heap.size w w' := by
  obtain ⟨op, size, addr, idx, data, tt, ⟨k, ix, wo, li, ⟨on, rw, rf, rt, rd, wr, rk, lk⟩⟩⟩ := x
  have hdat : data ≤ 4294967295 := by have := hf.2.1.2; simp only at this; omega
  by_cases h1 : op = 1
  · subst h1; exact instr_1 size addr data tt k ix wo li rw rf rt rk idx on rd wr lk w
  by_cases h2 : op = 2
  · subst h2; exact instr_2 size addr data tt k ix wo li rw rf rt rk idx on rd wr lk w hdat
  by_cases h3 : op = 3
  · subst h3; exact instr_3 size addr data tt k ix wo li rw rf rt rk idx on rd wr lk w
  by_cases h4 : op = 4
  · subst h4; exact instr_4 size addr data tt k ix wo li rw rf rt rk idx on rd wr lk w
  by_cases h5 : op = 5
  · subst h5; exact instr_5 size addr data tt k ix wo li rw rf rt rk idx on rd wr lk w hdat
  by_cases h6 : op = 6
  · subst h6; exact instr_6 size addr data tt k ix wo li rw rf rt rk idx on rd wr lk w
  by_cases h7 : op = 7
  · subst h7; exact instr_7 size addr data tt k ix wo li rw rf rt rk idx on rd wr lk w
  by_cases h8 : op = 8
  · subst h8; exact instr_8 size addr data tt k ix wo li rw rf rt rk idx on rd wr lk w
  by_cases h9 : op = 9
  · subst h9; exact instr_9 size addr data tt k ix wo li rw rf rt rk idx on rd wr lk w
  by_cases h10 : op = 10
  · subst h10; exact instr_10 size addr data tt k ix wo li rw rf rt rk idx on rd wr lk w
  have e : insRight ⟨op, size, addr, idx, data, tt, ⟨k, ix, wo, li, ⟨on, rw, rf, rt, rd, wr, rk, lk⟩⟩⟩ = false := by simp [insRight, h1, h2, h3, h4, h5, h6, h7, h8, h9, h10]
  rw [e]
  exact instr_none op size addr data tt k ix wo li rw rf rt rk idx on rd wr lk w (find_none op fun j a b => by omega)
end Go.Proofs.YtmjojlacpgdomaaGreatDoor
