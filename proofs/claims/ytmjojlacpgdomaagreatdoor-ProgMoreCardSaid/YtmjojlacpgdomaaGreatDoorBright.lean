import Derived.Test.YtmjojlacpgdomaaGreatDoorBone
/-! prog.Right: slices of instructions; slices.IndexFunc, ContainsFunc at them. -/
namespace Go.Proofs.YtmjojlacpgdomaaGreatDoor
set_option linter.unusedSimpArgs false
set_option linter.unusedVariables false
open Go Go.RowKit
/-- The value v is a slice that reads as the instructions l. -/
def SlI (w : World) (v : Value) (l : List Ins) : Prop :=
  ∃ a c, v = .slice a l.length c ∧ l.length ≤ c ∧ (l ≠ [] → ∃ b o, a = some ⟨b, o, none⟩ ∧ b < w.heap.size ∧ ∀ j x, l[j]? = some x → CellsAt w b (o + j * 18) x.cells)
theorem SlI.below {w w' : World} {v : Value} {l : List Ins} (h : SlI w v l) (hb : Below w.heap.size w w') : SlI w' v l := by
  obtain ⟨a, c, hv, hl, hx⟩ := h
  refine ⟨a, c, hv, hl, fun hne => ?_⟩
  obtain ⟨b, o, ha, hlt, hc⟩ := hx hne
  exact ⟨b, o, ha, Nat.lt_of_lt_of_le hlt hb.size, fun j x hj => (hc j x hj).below hb hlt⟩
def badI (n : Nat) (x : Ins) : Bool := !insRight x || decide ((n : Int) < x.to)
def farI (n : Nat) (x : Ins) : Bool := decide ((n : Int) < x.to)
set_option maxRecDepth 100000 in
set_option maxHeartbeats 1000000 in
theorem bad44 (x : Ins) (hf : x.Fit) (bq n c : Nat) (a : Option Addr) (w : World) (hq : w.cell? ⟨bq, 0, none⟩ = some (.slice a n c)) (hlt : bq < w.heap.size) :
    Calls Tryz.prog 44 #[.agg x.cells.toArray, .pointer (some ⟨bq, 0, none⟩)] w fun e w' => e = .returned (.bool (badI n x)) ∧ Below w.heap.size w w' := by
  have hcall := fun W => instr_any x hf W
  have hqa : ∀ o, (w.alloc o).cell? ⟨bq, 0, none⟩ = some (.slice a n c) := fun o => (((Below.refl w.heap.size w).alloc (Nat.le_refl _) o).cell (p := ⟨bq, 0, none⟩) hlt).trans hq
  clear hf
  unfold badI
  cases hr : insRight x with
  | false =>
    rw [hr] at hcall
    clear hr
    go_enter Tryz.func44, Tryz.ntmps44
    go_wp2_with (first | ((with_reducible refine wpl_load 33 _ rfl ?_ w.heap.size 0 ?_ _ _ (CellsAt.new _ _ _) Tryz.underlying33 rfl (by kernel_rfl) ?_); (· rfl); (· rfl)) | (go_at_call 15; (refine (hcall _).mono ?_); rintro e w1 ⟨rfl, hb1⟩))
    go_ret
    exact ⟨rfl, ((Below.refl _ _).alloc (Nat.le_refl _) _).trans (hb1.mono (by simp))⟩
  | true =>
    rw [hr] at hcall
    clear hr
    by_cases ht : (n : Int) < x.to
    · have ht' : decide ((n : Int) < x.to) = true := by simpa using ht
      go_enter Tryz.func44, Tryz.ntmps44
      go_wp2_with (first | ((with_reducible refine wpl_load 33 _ rfl ?_ w.heap.size 0 ?_ _ _ (CellsAt.new _ _ _) Tryz.underlying33 rfl (by kernel_rfl) ?_); (· rfl); (· rfl)) | (go_at_call 15; (refine (hcall _).mono ?_); rintro e w1 ⟨rfl, hb1⟩; have hrow1 := (hb1.block w.heap.size (by simp)).trans (heap_alloc_new w _); have hc1 := rowc hrow1 5; simp only [Ins.cells, List.getElem?_cons_zero, List.getElem?_cons_succ] at hc1; have hq1 := (hb1.cell (p := ⟨bq, 0, none⟩) (by simp; omega)).trans (hqa _)))
      go_ret
      exact ⟨by simp [ht], ((Below.refl _ _).alloc (Nat.le_refl _) _).trans (hb1.mono (by simp))⟩
    · have ht' : decide ((n : Int) < x.to) = false := by simpa using ht
      go_enter Tryz.func44, Tryz.ntmps44
      go_wp2_with (first | ((with_reducible refine wpl_load 33 _ rfl ?_ w.heap.size 0 ?_ _ _ (CellsAt.new _ _ _) Tryz.underlying33 rfl (by kernel_rfl) ?_); (· rfl); (· rfl)) | (go_at_call 15; (refine (hcall _).mono ?_); rintro e w1 ⟨rfl, hb1⟩; have hrow1 := (hb1.block w.heap.size (by simp)).trans (heap_alloc_new w _); have hc1 := rowc hrow1 5; simp only [Ins.cells, List.getElem?_cons_zero, List.getElem?_cons_succ] at hc1; have hq1 := (hb1.cell (p := ⟨bq, 0, none⟩) (by simp; omega)).trans (hqa _)))
      go_ret
      exact ⟨by simp [ht], ((Below.refl _ _).alloc (Nat.le_refl _) _).trans (hb1.mono (by simp))⟩
set_option maxRecDepth 100000 in
set_option maxHeartbeats 1000000 in
theorem far58 (x : Ins) (bq n c : Nat) (a : Option Addr) (w : World) (hq : w.cell? ⟨bq, 0, none⟩ = some (.slice a n c)) (hlt : bq < w.heap.size) :
    Calls Tryz.prog 58 #[.agg x.cells.toArray, .pointer (some ⟨bq, 0, none⟩)] w fun e w' => e = .returned (.bool (farI n x)) ∧ Below w.heap.size w w' := by
  unfold farI
  have hqa : ∀ o, (w.alloc o).cell? ⟨bq, 0, none⟩ = some (.slice a n c) := fun o => (((Below.refl w.heap.size w).alloc (Nat.le_refl _) o).cell (p := ⟨bq, 0, none⟩) hlt).trans hq
  have hca : (w.alloc (.cells x.cells.toArray 33)).cell? ⟨w.heap.size, 5, none⟩ = some (.int .i64 x.to) := by rw [rowc (heap_alloc_new w _)]; rfl
  go_enter Tryz.func58, Tryz.ntmps58
  go_wp2
  go_ret
  exact ⟨rfl, (Below.refl _ _).alloc (Nat.le_refl _) _⟩
end Go.Proofs.YtmjojlacpgdomaaGreatDoor
