import Derived.Test.YtmjojlacpgdomaaGreatDoorBread
/-! septumlaw23.awake. -/
namespace Go.Proofs.YtmjojlacpgdomaaGreatDoor
set_option linter.unusedSimpArgs false
set_option linter.unusedVariables false
open Go Go.RowKit
attribute [local go_sem] setRow_new setRow_old
def pr1 : List Ins := [⟨1, 4, 4096, false, 0, 0, .zero⟩, ⟨2, 2, 16, true, 255, 0, .zero⟩, ⟨5, 0, 0, false, 0, 0, .zero⟩, ⟨9, 0, 0, false, 0, 0, ⟨4, 3, 0, 0, .zero⟩⟩, ⟨10, 0, 0, false, 0, 0, .zero⟩]
theorem pr1_right : progRight pr1 = true := by kernel_rfl
theorem pr1_fit : ∀ x ∈ pr1, x.Fit := by
  intro x hx
  simp only [pr1, List.mem_cons, List.not_mem_nil, or_false] at hx
  rcases hx with rfl | rfl | rfl | rfl | rfl <;> simp [Ins.Fit, Cmd.Fit, Cmd.zero, Reg.zero]
theorem pr1_text : mk (progText pr1) = ⟨#[108, 111, 97, 100, 32, 52, 32, 49, 48, 48, 48, 10, 115, 116, 111, 114, 101, 32, 50, 32, 49, 48, 32, 43, 32, 102, 102, 10, 98, 114, 97, 110, 99, 104, 32, 48, 32, 48, 10, 99, 111, 110, 102, 32, 116, 97, 107, 101, 32, 51, 10, 104, 97, 108, 116]⟩ := by kernel_rfl
theorem pr1_read : readProg ⟨#[108, 111, 97, 100, 32, 52, 32, 49, 48, 48, 48, 10, 115, 116, 111, 114, 101, 32, 50, 32, 49, 48, 32, 43, 32, 102, 102, 10, 98, 114, 97, 110, 99, 104, 32, 48, 32, 48, 10, 99, 111, 110, 102, 32, 116, 97, 107, 101, 32, 51, 10, 104, 97, 108, 116]⟩ = (pr1, 0, 0) := by rw [← pr1_text]; exact readProg_text pr1 pr1_right pr1_fit
def pr2 : Ins := ⟨6, 0, 0, false, 0, 6, .zero⟩
theorem pr2_text : mk (insText pr2) = ⟨#[106, 117, 109, 112, 32, 54]⟩ := by kernel_rfl
theorem pr2_ins : readIns ⟨#[106, 117, 109, 112, 32, 54]⟩ = some pr2 := by rw [← pr2_text]; exact readIns_text pr2 (by kernel_rfl) (by simp [Ins.Fit, Cmd.Fit, Cmd.zero, Reg.zero, pr2])
theorem pr2_cut : cut 10 ⟨#[106, 117, 109, 112, 32, 54]⟩ = [⟨#[106, 117, 109, 112, 32, 54]⟩] := by kernel_rfl
theorem pr2_read : readProg ⟨#[106, 117, 109, 112, 32, 54]⟩ = ([], 1, 6) := by
  unfold readProg
  rw [pr2_cut]
  simp only [good, pr2_ins]
  rfl
def badLines : List ByteArray := [⟨#[108, 111, 97, 100, 32, 51, 32, 48]⟩, ⟨#[108, 111, 97, 100, 32, 52, 32, 48, 49]⟩, ⟨#[119, 97, 105, 116, 32, 110, 111, 119]⟩, ⟨#[104, 97, 108, 116, 32]⟩]
theorem bad_none : ∀ x ∈ badLines, readIns x = none := by
  intro x hx
  simp only [badLines, List.mem_cons, List.not_mem_nil, or_false] at hx
  rcases hx with rfl | rfl | rfl | rfl <;> kernel_rfl
theorem bad_size : ∀ x ∈ badLines, x.size ≤ 900000 := by
  intro x hx
  simp only [badLines, List.mem_cons, List.not_mem_nil, or_false] at hx
  rcases hx with rfl | rfl | rfl | rfl <;> exact Nat.le_of_ble_eq_true rfl
theorem read_1 (w : World) (hG : Glob w) : Calls Tryz.prog 20 #[.string ⟨#[108, 111, 97, 100, 32, 52, 32, 49, 48, 48, 48, 10, 115, 116, 111, 114, 101, 32, 50, 32, 49, 48, 32, 43, 32, 102, 102, 10, 98, 114, 97, 110, 99, 104, 32, 48, 32, 48, 10, 99, 111, 110, 102, 32, 116, 97, 107, 101, 32, 51, 10, 104, 97, 108, 116]⟩] w fun e w' => ∃ g c, e = .returned (.tuple #[.slice (some ⟨g, 0, none⟩) 5 c, .int .i64 0, .int .i64 0]) ∧ w.heap.size ≤ g ∧ g < w'.heap.size ∧ SlI w' (.slice (some ⟨g, 0, none⟩) 5 c) pr1 ∧ Below w.heap.size w w' := by
  refine (read_any _ (by exact Nat.le_of_ble_eq_true rfl) w hG).mono ?_
  rintro e w' ⟨v, rfl, ho, hb⟩
  rw [pr1_read] at ho ⊢
  rcases ho.shape with ⟨_, hn⟩ | ⟨g, c, rfl, h1, h2, h3⟩
  · cases hn
  · exact ⟨g, c, rfl, h1, h2, ho.sl, hb⟩
theorem read_2 (w : World) (hG : Glob w) : Calls Tryz.prog 20 #[.string ⟨#[106, 117, 109, 112, 32, 54]⟩] w fun e w' => ∃ v, e = .returned (.tuple #[v, .int .i64 1, .int .i64 6]) ∧ Below w.heap.size w w' := by
  refine (read_any _ (by exact Nat.le_of_ble_eq_true rfl) w hG).mono ?_
  rintro e w' ⟨v, rfl, ho, hb⟩
  rw [pr2_read]
  exact ⟨v, rfl, hb⟩
theorem SlI.cell1 {w : World} {g o n c : Nat} {l : List Ins} (h : SlI w (.slice (some ⟨g, o, none⟩) n c) l) {j i : Nat} {x : Ins} {v : Value} (hx : l[j]? = some x) (hv : x.cells[i]? = some v) : w.cell? ⟨g, o + j * 18 + i, none⟩ = some v := by
  obtain ⟨a, c', hv', _, hc⟩ := h
  injection hv' with h1 h2 h3
  obtain ⟨b, o', ha, _, hcc⟩ := hc (by rintro rfl; simp at hx)
  rw [ha] at h1
  injection h1 with h1
  injection h1 with h1 h2
  subst h1; subst h2
  exact hcc j x hx i v hv
set_option maxRecDepth 100000 in
set_option maxHeartbeats 4000000 in
theorem awake_any (w : World) (hG : Glob w) : Calls Tryz.prog 13 #[] w fun e w' => e = .returned (.bool true) ∧ Below w.heap.size w w' := by
  go_enter Tryz.func13, Tryz.ntmps13
  go_wp2_with (first | (go_at_call 20; (with_reducible refine (read_1 _ (by exact hG)).mono ?_); rintro e w1 ⟨g, c, rfl, hg1, hg2, hS, hb1⟩) | (go_at_call 20; (with_reducible refine (read_2 _ (by exact hG.below hb1)).mono ?_); rintro e w2 ⟨v2, rfl, hb2⟩))
  obtain ⟨W, hW⟩ : ∃ W, W = w2.alloc (.cells (badLines.map Value.string).toArray 9) := ⟨_, rfl⟩
  have hrow0 : W.heap[w2.heap.size]? = some (.cells (badLines.map Value.string).toArray 9 (0, 0)) := by rw [hW]; exact heap_alloc_new _ _
  have hB0 : Below w.heap.size w W := by rw [hW]; exact (hb1.trans (hb2.mono hb1.size)).alloc (by have := hb1.size; have := hb2.size; omega) _
  have hS0 : SlI W (.slice (some ⟨g, 0, none⟩) 5 c) pr1 := by rw [hW]; exact (hS.below hb2).below ((Below.refl _ _).alloc (Nat.le_refl _) _)
  have hgW : g < w2.heap.size := Nat.lt_of_lt_of_le hg2 hb2.size
  rw [show w2.alloc (.cells #[.string ⟨#[108, 111, 97, 100, 32, 51, 32, 48]⟩, .string ⟨#[108, 111, 97, 100, 32, 52, 32, 48, 49]⟩, .string ⟨#[119, 97, 105, 116, 32, 110, 111, 119]⟩, .string ⟨#[104, 97, 108, 116, 32]⟩] 9) = W from hW.symm]
  clear hb1 hb2 hS hg1 hg2 hW
  go_loopw [8] (fun t wr => ∃ k : Nat, k ≤ 4 ∧ t = .int .i64 (k : Nat) ∧ Below W.heap.size W wr) (fun t _ => 4 - (intOf t).toNat)
  case atStart => exact ⟨0, by omega, rfl, Below.refl _ _⟩
  case round =>
    obtain ⟨k, hk, rfl, hB⟩ := hrel
    by_cases hlt : k < 4
    · obtain ⟨x, Hx⟩ : ∃ x, Hid (badLines[k]? = some x) := ⟨_, Lib.hid (List.getElem?_eq_getElem hlt)⟩
      have hcx : wr.cell? ⟨w2.heap.size, k, none⟩ = some (.string x) := by
        rw [rowc ((hB.block _ (heap_lt hrow0)).trans hrow0), List.getElem?_map, Hx.out]; rfl
      have hone := one_any x (bad_size x (List.mem_of_getElem? Hx.out)) wr (hG.below (hB0.trans (hB.mono hB0.size)))
      simp only [oneI, oneE, bad_none x (List.mem_of_getElem? Hx.out)] at hone
      go_wp2_with (first | (go_at_call 23; (with_reducible refine hone.mono ?_); rintro e w3 ⟨rfl, hb3⟩) | ((with_reducible refine wpl_store 33 _ _ rfl ?_ w3.heap.size 0 33 _ Ins.zero.cells (heap_alloc_new w3 (.cells #[.int .i64 0, .int .i64 0, .int .u32 0, .bool false, .int .u32 0, .int .i64 0, .int .i64 0, .int .i64 0, .int .i64 0, .int .i64 0, .bool false, .int .i64 0, .int .u32 0, .int .u32 0, .bool false, .bool false, .int .i64 0, .bool false] 33)) ?_ ?_ ?_ ?_ ?_ Ins.zero.cells ?_ ?_); (· rfl); (· rfl); (· rfl); (· kernel_rfl); (· exact Nat.le_of_ble_eq_true rfl); (· rfl); (· rfl)))
      go_roundw
      case rel => exact ⟨k + 1, by omega, by go_num, (hB.trans (hb3.mono hB.size)).alloc (by have := hB.size; have := hb3.size; omega) _⟩
      case measure => simp [intOf]; omega
    · have hk4 : k = 4 := by omega
      subst hk4
      have hS1 := hS0.below hB
      have c1 := hS1.cell1 (j := 1) rfl (i := 3) rfl
      have c2 := hS1.cell1 (j := 1) rfl (i := 4) rfl
      have c3 := hS1.cell1 (j := 3) rfl (i := 7) rfl
      simp only [Nat.zero_add, Nat.reduceMul, Nat.reduceAdd] at c1 c2 c3
      have hr := right_any' pr1 _ wr hS1 pr1_fit (by decide)
      rw [pr1_right] at hr
      clear hS1
      go_wp2_with (go_at_call 14; (with_reducible refine hr.mono ?_); rintro e w4 ⟨rfl, hb4⟩)
      go_ret
      exact ⟨rfl, (hB0.trans (hB.mono hB0.size)).trans (hb4.mono (hB0.trans (hB.mono hB0.size)).size)⟩
end Go.Proofs.YtmjojlacpgdomaaGreatDoor
