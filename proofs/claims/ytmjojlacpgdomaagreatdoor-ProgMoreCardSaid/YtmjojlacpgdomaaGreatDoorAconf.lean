import Derived.Test.YtmjojlacpgdomaaGreatDoorAbase
namespace Go.Proofs.YtmjojlacpgdomaaGreatDoor
set_option linter.unusedSimpArgs false
set_option linter.unusedVariables false
open Go Go.RowKit
attribute [local go_sem high] seq31
attribute [local go_sem] setRow_new setRow_old
set_option maxRecDepth 100000 in
set_option maxHeartbeats 1000000 in
theorem named_1 (ix wo li rw rf rt rk : Int) (on rd wr lk : Bool) (w : World) :
    Calls Tryz.prog 215 #[.agg #[.int .i64 1, .int .i64 ix, .int .i64 wo, .int .i64 li, .bool on, .int .i64 rw, .int .u32 rf, .int .u32 rt, .bool rd, .bool wr, .int .i64 rk, .bool lk]] w fun e w' => e = .returned (.agg (cmdNamed ⟨1, ix, wo, li, ⟨on, rw, rf, rt, rd, wr, rk, lk⟩⟩).cells.toArray) ∧ Below w.heap.size w w' := by
  go_enter Tryz.func215, Tryz.ntmps215
  go_wp2_with (first | ((with_reducible refine wpl_load 29 _ rfl ?_ _ 4 ?_ _ _ (CellsAt.sub ?_ 4 8) Tryz.underlying29 rfl ?_ ?_); (· rfl); (· rfl); (· (first | exact heap_alloc_new _ _ | exact hp1 _ _ _ | exact hp2 _ _ _ _ | exact hp3 _ _ _ _ _ | exact hq1 _ _ _ | exact hq2 _ _ _ _ | exact hq3 _ _ _ _ _ | exact hr2 _ _ _ _ | exact hr3 _ _ _ _ _)); (· kernel_rfl)) | ((with_reducible refine wpl_load 31 _ rfl ?_ _ 0 ?_ _ _ (CellsAt.sub ?_ 0 12) Tryz.underlying31 rfl ?_ ?_); (· rfl); (· rfl); (· (first | exact heap_alloc_new _ _ | exact hp1 _ _ _ | exact hp2 _ _ _ _ | exact hp3 _ _ _ _ _ | exact hq1 _ _ _ | exact hq2 _ _ _ _ | exact hq3 _ _ _ _ _ | exact hr2 _ _ _ _ | exact hr3 _ _ _ _ _)); (· kernel_rfl)) | ((with_reducible refine wpl_store 29 _ _ rfl ?_ _ 4 _ _ _ ?_ ?_ ?_ ?_ ?_ ?_ _ rfl ?_); (· rfl); (· (first | exact heap_alloc_new _ _ | exact hp1 _ _ _ | exact hp2 _ _ _ _ | exact hp3 _ _ _ _ _ | exact hq1 _ _ _ | exact hq2 _ _ _ _ | exact hq3 _ _ _ _ _ | exact hr2 _ _ _ _ | exact hr3 _ _ _ _ _)); (· rfl); (· rfl); (· kernel_rfl); (· simp); (· rfl); simp only [List.take, List.drop, List.nil_append, List.append_nil, List.cons_append, setRow_new]) | ((with_reducible refine wpl_store 31 _ _ rfl ?_ _ 0 _ _ _ ?_ ?_ ?_ ?_ ?_ ?_ _ rfl ?_); (· rfl); (· (first | exact heap_alloc_new _ _ | exact hp1 _ _ _ | exact hp2 _ _ _ _ | exact hp3 _ _ _ _ _ | exact hq1 _ _ _ | exact hq2 _ _ _ _ | exact hq3 _ _ _ _ _ | exact hr2 _ _ _ _ | exact hr3 _ _ _ _ _)); (· rfl); (· rfl); (· kernel_rfl); (· simp); (· rfl); simp only [List.take, List.drop, List.nil_append, List.append_nil, List.cons_append, setRow_new]))
  exact bodyPost_ret (results_cell_row (p := 2) (ty := 31) rfl _ _ _ _ _ _ _ rfl (hq2 _ _ _ _) Tryz.underlying31 rfl (by kernel_rfl)) rfl ⟨rfl, ((((Below.refl _ _).alloc (Nat.le_refl _) _).alloc (by simp) _).alloc (by simp; omega) _)⟩
set_option maxRecDepth 100000 in
set_option maxHeartbeats 1000000 in
theorem named_3 (ix wo li rw rf rt rk : Int) (on rd wr lk : Bool) (w : World) :
    Calls Tryz.prog 215 #[.agg #[.int .i64 3, .int .i64 ix, .int .i64 wo, .int .i64 li, .bool on, .int .i64 rw, .int .u32 rf, .int .u32 rt, .bool rd, .bool wr, .int .i64 rk, .bool lk]] w fun e w' => e = .returned (.agg (cmdNamed ⟨3, ix, wo, li, ⟨on, rw, rf, rt, rd, wr, rk, lk⟩⟩).cells.toArray) ∧ Below w.heap.size w w' := by
  go_enter Tryz.func215, Tryz.ntmps215
  go_wp2_with (first | ((with_reducible refine wpl_load 29 _ rfl ?_ _ 4 ?_ _ _ (CellsAt.sub ?_ 4 8) Tryz.underlying29 rfl ?_ ?_); (· rfl); (· rfl); (· (first | exact heap_alloc_new _ _ | exact hp1 _ _ _ | exact hp2 _ _ _ _ | exact hp3 _ _ _ _ _ | exact hq1 _ _ _ | exact hq2 _ _ _ _ | exact hq3 _ _ _ _ _ | exact hr2 _ _ _ _ | exact hr3 _ _ _ _ _)); (· kernel_rfl)) | ((with_reducible refine wpl_load 31 _ rfl ?_ _ 0 ?_ _ _ (CellsAt.sub ?_ 0 12) Tryz.underlying31 rfl ?_ ?_); (· rfl); (· rfl); (· (first | exact heap_alloc_new _ _ | exact hp1 _ _ _ | exact hp2 _ _ _ _ | exact hp3 _ _ _ _ _ | exact hq1 _ _ _ | exact hq2 _ _ _ _ | exact hq3 _ _ _ _ _ | exact hr2 _ _ _ _ | exact hr3 _ _ _ _ _)); (· kernel_rfl)) | ((with_reducible refine wpl_store 29 _ _ rfl ?_ _ 4 _ _ _ ?_ ?_ ?_ ?_ ?_ ?_ _ rfl ?_); (· rfl); (· (first | exact heap_alloc_new _ _ | exact hp1 _ _ _ | exact hp2 _ _ _ _ | exact hp3 _ _ _ _ _ | exact hq1 _ _ _ | exact hq2 _ _ _ _ | exact hq3 _ _ _ _ _ | exact hr2 _ _ _ _ | exact hr3 _ _ _ _ _)); (· rfl); (· rfl); (· kernel_rfl); (· simp); (· rfl); simp only [List.take, List.drop, List.nil_append, List.append_nil, List.cons_append, setRow_new]) | ((with_reducible refine wpl_store 31 _ _ rfl ?_ _ 0 _ _ _ ?_ ?_ ?_ ?_ ?_ ?_ _ rfl ?_); (· rfl); (· (first | exact heap_alloc_new _ _ | exact hp1 _ _ _ | exact hp2 _ _ _ _ | exact hp3 _ _ _ _ _ | exact hq1 _ _ _ | exact hq2 _ _ _ _ | exact hq3 _ _ _ _ _ | exact hr2 _ _ _ _ | exact hr3 _ _ _ _ _)); (· rfl); (· rfl); (· kernel_rfl); (· simp); (· rfl); simp only [List.take, List.drop, List.nil_append, List.append_nil, List.cons_append, setRow_new]))
  exact bodyPost_ret (results_cell_row (p := 2) (ty := 31) rfl _ _ _ _ _ _ _ rfl (hq2 _ _ _ _) Tryz.underlying31 rfl (by kernel_rfl)) rfl ⟨rfl, ((((Below.refl _ _).alloc (Nat.le_refl _) _).alloc (by simp) _).alloc (by simp; omega) _)⟩
set_option maxRecDepth 100000 in
set_option maxHeartbeats 1000000 in
theorem named_5 (ix wo li rw rf rt rk : Int) (on rd wr lk : Bool) (w : World) :
    Calls Tryz.prog 215 #[.agg #[.int .i64 5, .int .i64 ix, .int .i64 wo, .int .i64 li, .bool on, .int .i64 rw, .int .u32 rf, .int .u32 rt, .bool rd, .bool wr, .int .i64 rk, .bool lk]] w fun e w' => e = .returned (.agg (cmdNamed ⟨5, ix, wo, li, ⟨on, rw, rf, rt, rd, wr, rk, lk⟩⟩).cells.toArray) ∧ Below w.heap.size w w' := by
  go_enter Tryz.func215, Tryz.ntmps215
  go_wp2_with (first | ((with_reducible refine wpl_load 29 _ rfl ?_ _ 4 ?_ _ _ (CellsAt.sub ?_ 4 8) Tryz.underlying29 rfl ?_ ?_); (· rfl); (· rfl); (· (first | exact heap_alloc_new _ _ | exact hp1 _ _ _ | exact hp2 _ _ _ _ | exact hp3 _ _ _ _ _ | exact hq1 _ _ _ | exact hq2 _ _ _ _ | exact hq3 _ _ _ _ _ | exact hr2 _ _ _ _ | exact hr3 _ _ _ _ _)); (· kernel_rfl)) | ((with_reducible refine wpl_load 31 _ rfl ?_ _ 0 ?_ _ _ (CellsAt.sub ?_ 0 12) Tryz.underlying31 rfl ?_ ?_); (· rfl); (· rfl); (· (first | exact heap_alloc_new _ _ | exact hp1 _ _ _ | exact hp2 _ _ _ _ | exact hp3 _ _ _ _ _ | exact hq1 _ _ _ | exact hq2 _ _ _ _ | exact hq3 _ _ _ _ _ | exact hr2 _ _ _ _ | exact hr3 _ _ _ _ _)); (· kernel_rfl)) | ((with_reducible refine wpl_store 29 _ _ rfl ?_ _ 4 _ _ _ ?_ ?_ ?_ ?_ ?_ ?_ _ rfl ?_); (· rfl); (· (first | exact heap_alloc_new _ _ | exact hp1 _ _ _ | exact hp2 _ _ _ _ | exact hp3 _ _ _ _ _ | exact hq1 _ _ _ | exact hq2 _ _ _ _ | exact hq3 _ _ _ _ _ | exact hr2 _ _ _ _ | exact hr3 _ _ _ _ _)); (· rfl); (· rfl); (· kernel_rfl); (· simp); (· rfl); simp only [List.take, List.drop, List.nil_append, List.append_nil, List.cons_append, setRow_new]) | ((with_reducible refine wpl_store 31 _ _ rfl ?_ _ 0 _ _ _ ?_ ?_ ?_ ?_ ?_ ?_ _ rfl ?_); (· rfl); (· (first | exact heap_alloc_new _ _ | exact hp1 _ _ _ | exact hp2 _ _ _ _ | exact hp3 _ _ _ _ _ | exact hq1 _ _ _ | exact hq2 _ _ _ _ | exact hq3 _ _ _ _ _ | exact hr2 _ _ _ _ | exact hr3 _ _ _ _ _)); (· rfl); (· rfl); (· kernel_rfl); (· simp); (· rfl); simp only [List.take, List.drop, List.nil_append, List.append_nil, List.cons_append, setRow_new]))
  exact bodyPost_ret (results_cell_row (p := 2) (ty := 31) rfl _ _ _ _ _ _ _ rfl (hq2 _ _ _ _) Tryz.underlying31 rfl (by kernel_rfl)) rfl ⟨rfl, ((((Below.refl _ _).alloc (Nat.le_refl _) _).alloc (by simp) _).alloc (by simp; omega) _)⟩
set_option maxRecDepth 100000 in
set_option maxHeartbeats 1000000 in
theorem named_6 (ix wo li rw rf rt rk : Int) (on rd wr lk : Bool) (w : World) :
    Calls Tryz.prog 215 #[.agg #[.int .i64 6, .int .i64 ix, .int .i64 wo, .int .i64 li, .bool on, .int .i64 rw, .int .u32 rf, .int .u32 rt, .bool rd, .bool wr, .int .i64 rk, .bool lk]] w fun e w' => e = .returned (.agg (cmdNamed ⟨6, ix, wo, li, ⟨on, rw, rf, rt, rd, wr, rk, lk⟩⟩).cells.toArray) ∧ Below w.heap.size w w' := by
  go_enter Tryz.func215, Tryz.ntmps215
  go_wp2_with (first | ((with_reducible refine wpl_load 29 _ rfl ?_ _ 4 ?_ _ _ (CellsAt.sub ?_ 4 8) Tryz.underlying29 rfl ?_ ?_); (· rfl); (· rfl); (· (first | exact heap_alloc_new _ _ | exact hp1 _ _ _ | exact hp2 _ _ _ _ | exact hp3 _ _ _ _ _ | exact hq1 _ _ _ | exact hq2 _ _ _ _ | exact hq3 _ _ _ _ _ | exact hr2 _ _ _ _ | exact hr3 _ _ _ _ _)); (· kernel_rfl)) | ((with_reducible refine wpl_load 31 _ rfl ?_ _ 0 ?_ _ _ (CellsAt.sub ?_ 0 12) Tryz.underlying31 rfl ?_ ?_); (· rfl); (· rfl); (· (first | exact heap_alloc_new _ _ | exact hp1 _ _ _ | exact hp2 _ _ _ _ | exact hp3 _ _ _ _ _ | exact hq1 _ _ _ | exact hq2 _ _ _ _ | exact hq3 _ _ _ _ _ | exact hr2 _ _ _ _ | exact hr3 _ _ _ _ _)); (· kernel_rfl)) | ((with_reducible refine wpl_store 29 _ _ rfl ?_ _ 4 _ _ _ ?_ ?_ ?_ ?_ ?_ ?_ _ rfl ?_); (· rfl); (· (first | exact heap_alloc_new _ _ | exact hp1 _ _ _ | exact hp2 _ _ _ _ | exact hp3 _ _ _ _ _ | exact hq1 _ _ _ | exact hq2 _ _ _ _ | exact hq3 _ _ _ _ _ | exact hr2 _ _ _ _ | exact hr3 _ _ _ _ _)); (· rfl); (· rfl); (· kernel_rfl); (· simp); (· rfl); simp only [List.take, List.drop, List.nil_append, List.append_nil, List.cons_append, setRow_new]) | ((with_reducible refine wpl_store 31 _ _ rfl ?_ _ 0 _ _ _ ?_ ?_ ?_ ?_ ?_ ?_ _ rfl ?_); (· rfl); (· (first | exact heap_alloc_new _ _ | exact hp1 _ _ _ | exact hp2 _ _ _ _ | exact hp3 _ _ _ _ _ | exact hq1 _ _ _ | exact hq2 _ _ _ _ | exact hq3 _ _ _ _ _ | exact hr2 _ _ _ _ | exact hr3 _ _ _ _ _)); (· rfl); (· rfl); (· kernel_rfl); (· simp); (· rfl); simp only [List.take, List.drop, List.nil_append, List.append_nil, List.cons_append, setRow_new]))
  exact bodyPost_ret (results_cell_row (p := 2) (ty := 31) rfl _ _ _ _ _ _ _ rfl (hq2 _ _ _ _) Tryz.underlying31 rfl (by kernel_rfl)) rfl ⟨rfl, ((((Below.refl _ _).alloc (Nat.le_refl _) _).alloc (by simp) _).alloc (by simp; omega) _)⟩
set_option maxRecDepth 100000 in
set_option maxHeartbeats 1000000 in
theorem named_7 (ix wo li rw rf rt rk : Int) (on rd wr lk : Bool) (w : World) :
    Calls Tryz.prog 215 #[.agg #[.int .i64 7, .int .i64 ix, .int .i64 wo, .int .i64 li, .bool on, .int .i64 rw, .int .u32 rf, .int .u32 rt, .bool rd, .bool wr, .int .i64 rk, .bool lk]] w fun e w' => e = .returned (.agg (cmdNamed ⟨7, ix, wo, li, ⟨on, rw, rf, rt, rd, wr, rk, lk⟩⟩).cells.toArray) ∧ Below w.heap.size w w' := by
  go_enter Tryz.func215, Tryz.ntmps215
  go_wp2_with (first | ((with_reducible refine wpl_load 29 _ rfl ?_ _ 4 ?_ _ _ (CellsAt.sub ?_ 4 8) Tryz.underlying29 rfl ?_ ?_); (· rfl); (· rfl); (· (first | exact heap_alloc_new _ _ | exact hp1 _ _ _ | exact hp2 _ _ _ _ | exact hp3 _ _ _ _ _ | exact hq1 _ _ _ | exact hq2 _ _ _ _ | exact hq3 _ _ _ _ _ | exact hr2 _ _ _ _ | exact hr3 _ _ _ _ _)); (· kernel_rfl)) | ((with_reducible refine wpl_load 31 _ rfl ?_ _ 0 ?_ _ _ (CellsAt.sub ?_ 0 12) Tryz.underlying31 rfl ?_ ?_); (· rfl); (· rfl); (· (first | exact heap_alloc_new _ _ | exact hp1 _ _ _ | exact hp2 _ _ _ _ | exact hp3 _ _ _ _ _ | exact hq1 _ _ _ | exact hq2 _ _ _ _ | exact hq3 _ _ _ _ _ | exact hr2 _ _ _ _ | exact hr3 _ _ _ _ _)); (· kernel_rfl)) | ((with_reducible refine wpl_store 29 _ _ rfl ?_ _ 4 _ _ _ ?_ ?_ ?_ ?_ ?_ ?_ _ rfl ?_); (· rfl); (· (first | exact heap_alloc_new _ _ | exact hp1 _ _ _ | exact hp2 _ _ _ _ | exact hp3 _ _ _ _ _ | exact hq1 _ _ _ | exact hq2 _ _ _ _ | exact hq3 _ _ _ _ _ | exact hr2 _ _ _ _ | exact hr3 _ _ _ _ _)); (· rfl); (· rfl); (· kernel_rfl); (· simp); (· rfl); simp only [List.take, List.drop, List.nil_append, List.append_nil, List.cons_append, setRow_new]) | ((with_reducible refine wpl_store 31 _ _ rfl ?_ _ 0 _ _ _ ?_ ?_ ?_ ?_ ?_ ?_ _ rfl ?_); (· rfl); (· (first | exact heap_alloc_new _ _ | exact hp1 _ _ _ | exact hp2 _ _ _ _ | exact hp3 _ _ _ _ _ | exact hq1 _ _ _ | exact hq2 _ _ _ _ | exact hq3 _ _ _ _ _ | exact hr2 _ _ _ _ | exact hr3 _ _ _ _ _)); (· rfl); (· rfl); (· kernel_rfl); (· simp); (· rfl); simp only [List.take, List.drop, List.nil_append, List.append_nil, List.cons_append, setRow_new]))
  exact bodyPost_ret (results_cell_row (p := 2) (ty := 31) rfl _ _ _ _ _ _ _ rfl (hq2 _ _ _ _) Tryz.underlying31 rfl (by kernel_rfl)) rfl ⟨rfl, ((((Below.refl _ _).alloc (Nat.le_refl _) _).alloc (by simp) _).alloc (by simp; omega) _)⟩
set_option maxRecDepth 100000 in
set_option maxHeartbeats 1000000 in
theorem named_0 (k ix wo li rw rf rt rk : Int) (on rd wr lk : Bool) (w : World) (h1 : (k == 1) = false) (h3 : (k == 3) = false) (h5 : (k == 5) = false) (h6 : (k == 6) = false) (h7 : (k == 7) = false) :
    Calls Tryz.prog 215 #[.agg #[.int .i64 k, .int .i64 ix, .int .i64 wo, .int .i64 li, .bool on, .int .i64 rw, .int .u32 rf, .int .u32 rt, .bool rd, .bool wr, .int .i64 rk, .bool lk]] w fun e w' => e = .returned (.agg (cmdNamed ⟨k, ix, wo, li, ⟨on, rw, rf, rt, rd, wr, rk, lk⟩⟩).cells.toArray) ∧ Below w.heap.size w w' := by
  go_enter Tryz.func215, Tryz.ntmps215
  go_wp2_with (first | ((with_reducible refine wpl_load 29 _ rfl ?_ _ 4 ?_ _ _ (CellsAt.sub ?_ 4 8) Tryz.underlying29 rfl ?_ ?_); (· rfl); (· rfl); (· (first | exact heap_alloc_new _ _ | exact hp1 _ _ _ | exact hp2 _ _ _ _ | exact hp3 _ _ _ _ _ | exact hq1 _ _ _ | exact hq2 _ _ _ _ | exact hq3 _ _ _ _ _ | exact hr2 _ _ _ _ | exact hr3 _ _ _ _ _)); (· kernel_rfl)) | ((with_reducible refine wpl_load 31 _ rfl ?_ _ 0 ?_ _ _ (CellsAt.sub ?_ 0 12) Tryz.underlying31 rfl ?_ ?_); (· rfl); (· rfl); (· (first | exact heap_alloc_new _ _ | exact hp1 _ _ _ | exact hp2 _ _ _ _ | exact hp3 _ _ _ _ _ | exact hq1 _ _ _ | exact hq2 _ _ _ _ | exact hq3 _ _ _ _ _ | exact hr2 _ _ _ _ | exact hr3 _ _ _ _ _)); (· kernel_rfl)) | ((with_reducible refine wpl_store 29 _ _ rfl ?_ _ 4 _ _ _ ?_ ?_ ?_ ?_ ?_ ?_ _ rfl ?_); (· rfl); (· (first | exact heap_alloc_new _ _ | exact hp1 _ _ _ | exact hp2 _ _ _ _ | exact hp3 _ _ _ _ _ | exact hq1 _ _ _ | exact hq2 _ _ _ _ | exact hq3 _ _ _ _ _ | exact hr2 _ _ _ _ | exact hr3 _ _ _ _ _)); (· rfl); (· rfl); (· kernel_rfl); (· simp); (· rfl); simp only [List.take, List.drop, List.nil_append, List.append_nil, List.cons_append, setRow_new]) | ((with_reducible refine wpl_store 31 _ _ rfl ?_ _ 0 _ _ _ ?_ ?_ ?_ ?_ ?_ ?_ _ rfl ?_); (· rfl); (· (first | exact heap_alloc_new _ _ | exact hp1 _ _ _ | exact hp2 _ _ _ _ | exact hp3 _ _ _ _ _ | exact hq1 _ _ _ | exact hq2 _ _ _ _ | exact hq3 _ _ _ _ _ | exact hr2 _ _ _ _ | exact hr3 _ _ _ _ _)); (· rfl); (· rfl); (· kernel_rfl); (· simp); (· rfl); simp only [List.take, List.drop, List.nil_append, List.append_nil, List.cons_append, setRow_new]))
  exact bodyPost_ret (results_cell_row (p := 2) (ty := 31) rfl _ _ _ _ _ _ _ rfl (hq2 _ _ _ _) Tryz.underlying31 rfl (by kernel_rfl)) rfl ⟨by simp at h1 h3 h5 h6 h7; simp [cmdNamed, h1, h3, h5, h6, h7, Cmd.cells, Reg.cells, Reg.zero], ((((Below.refl _ _).alloc (Nat.le_refl _) _).alloc (by simp) _).alloc (by simp; omega) _)⟩
set_option maxRecDepth 100000 in
set_option maxHeartbeats 1000000 in
theorem named_any (k ix wo li rw rf rt rk : Int) (on rd wr lk : Bool) (w : World) :
    Calls Tryz.prog 215 #[.agg #[.int .i64 k, .int .i64 ix, .int .i64 wo, .int .i64 li, .bool on, .int .i64 rw, .int .u32 rf, .int .u32 rt, .bool rd, .bool wr, .int .i64 rk, .bool lk]] w fun e w' => e = .returned (.agg (cmdNamed ⟨k, ix, wo, li, ⟨on, rw, rf, rt, rd, wr, rk, lk⟩⟩).cells.toArray) ∧ Below w.heap.size w w' := by
  by_cases h1 : k = 1
  · subst h1; exact named_1 ix wo li rw rf rt rk on rd wr lk w
  by_cases h3 : k = 3
  · subst h3; exact named_3 ix wo li rw rf rt rk on rd wr lk w
  by_cases h5 : k = 5
  · subst h5; exact named_5 ix wo li rw rf rt rk on rd wr lk w
  by_cases h6 : k = 6
  · subst h6; exact named_6 ix wo li rw rf rt rk on rd wr lk w
  by_cases h7 : k = 7
  · subst h7; exact named_7 ix wo li rw rf rt rk on rd wr lk w
  exact named_0 k ix wo li rw rf rt rk on rd wr lk w (by simpa using h1) (by simpa using h3) (by simpa using h5) (by simpa using h6) (by simpa using h7)
set_option maxRecDepth 100000 in
set_option maxHeartbeats 1000000 in
theorem within_lo (n x : Int) (w : World) (b c : Nat) (hc : w.cell? ⟨b, 0, none⟩ = some (.int .i64 x)) (hb : b < w.heap.size) (h0 : x < 0) :
    Calls Tryz.prog 216 #[.int .i64 n, .slice (some ⟨b, 0, none⟩) 1 c] w fun e w' => e = .returned (.bool false) ∧ Below w.heap.size w w' := by
  go_enter Tryz.func216, Tryz.ntmps216
  go_wp2
  refine wp_loop_rounds 2 ?_
  rw [rounds_succ]
  go_wp2
  go_ret
  exact ⟨rfl, (Below.refl _ _).alloc (Nat.le_refl _) _⟩
set_option maxRecDepth 100000 in
set_option maxHeartbeats 1000000 in
theorem within_hi (n x : Int) (w : World) (b c : Nat) (hc : w.cell? ⟨b, 0, none⟩ = some (.int .i64 x)) (hb : b < w.heap.size) (h0 : 0 ≤ x) (h1 : n < x) :
    Calls Tryz.prog 216 #[.int .i64 n, .slice (some ⟨b, 0, none⟩) 1 c] w fun e w' => e = .returned (.bool false) ∧ Below w.heap.size w w' := by
  have h0n : ¬ x < 0 := by omega
  go_enter Tryz.func216, Tryz.ntmps216
  go_wp2
  refine wp_loop_rounds 2 ?_
  rw [rounds_succ]
  go_wp2
  go_ret
  exact ⟨rfl, (Below.refl _ _).alloc (Nat.le_refl _) _⟩
set_option maxRecDepth 100000 in
set_option maxHeartbeats 1000000 in
theorem within_ok (n x : Int) (w : World) (b c : Nat) (hc : w.cell? ⟨b, 0, none⟩ = some (.int .i64 x)) (hb : b < w.heap.size) (h0 : 0 ≤ x) (h1 : x ≤ n) :
    Calls Tryz.prog 216 #[.int .i64 n, .slice (some ⟨b, 0, none⟩) 1 c] w fun e w' => e = .returned (.bool true) ∧ Below w.heap.size w w' := by
  have h0n : ¬ x < 0 := by omega
  have h1n : ¬ n < x := by omega
  go_enter Tryz.func216, Tryz.ntmps216
  go_wp2
  refine wp_loop_rounds 2 ?_
  rw [rounds_succ]
  go_wp2
  rw [rounds_succ]
  go_wp2
  go_ret
  exact ⟨rfl, (Below.refl _ _).alloc (Nat.le_refl _) _⟩
/-- From 0 to a bound. -/
def inB (n x : Int) : Bool := decide (0 ≤ x) && decide (x ≤ n)
theorem within_any (n x : Int) (w : World) (b c : Nat) (hc : w.cell? ⟨b, 0, none⟩ = some (.int .i64 x)) (hb : b < w.heap.size) :
    Calls Tryz.prog 216 #[.int .i64 n, .slice (some ⟨b, 0, none⟩) 1 c] w fun e w' => e = .returned (.bool (inB n x)) ∧ Below w.heap.size w w' := by
  by_cases h0 : x < 0
  · have e : inB n x = false := by simp [inB]; omega
    rw [e]; exact within_lo n x w b c hc hb h0
  by_cases h1 : n < x
  · have e : inB n x = false := by simp [inB]; omega
    rw [e]; exact within_hi n x w b c hc hb (by omega) h1
  · have e : inB n x = true := by simp [inB]; omega
    rw [e]; exact within_ok n x w b c hc hb (by omega) (by omega)
end Go.Proofs.YtmjojlacpgdomaaGreatDoor
