import Derived.Test.YtmjojlacpgdomaaGreatDoorAbase
namespace Go.Proofs.YtmjojlacpgdomaaGreatDoor
set_option linter.unusedSimpArgs false
set_option linter.unusedVariables false
open Go Go.RowKit
attribute [local go_sem high] seq33
set_option maxRecDepth 100000 in
set_option maxHeartbeats 1000000 in
theorem none_any (op size addr data to k ix wo li rw rf rt rk : Int) (idx on rd wr lk : Bool) (w : World) :
    Calls Tryz.prog 107 #[.agg #[.int .i64 op, .int .i64 size, .int .u32 addr, .bool idx, .int .u32 data, .int .i64 to, .int .i64 k, .int .i64 ix, .int .i64 wo, .int .i64 li, .bool on, .int .i64 rw, .int .u32 rf, .int .u32 rt, .bool rd, .bool wr, .int .i64 rk, .bool lk]] w fun e w' => e = .returned (.bool (insNone size addr idx data to ⟨k, ix, wo, li, ⟨on, rw, rf, rt, rd, wr, rk, lk⟩⟩)) ∧ Below w.heap.size w w' := by
  go_enter Tryz.func107, Tryz.ntmps107
  go_wp2_with ((with_reducible refine wpl_load 33 _ rfl ?_ _ _ ?_ _ _ (CellsAt.new _ _ _) Tryz.underlying33 rfl (by kernel_rfl) ?_); (· rfl); (· rfl))
  go_ret
  exact ⟨rfl, (Below.refl _ _).alloc (Nat.le_refl _) _⟩
set_option maxRecDepth 100000 in
set_option maxHeartbeats 1000000 in
theorem shLoad_any (op size addr data to k ix wo li rw rf rt rk : Int) (idx on rd wr lk : Bool) (w : World) :
    Calls Tryz.prog 105 #[.agg #[.int .i64 op, .int .i64 size, .int .u32 addr, .bool idx, .int .u32 data, .int .i64 to, .int .i64 k, .int .i64 ix, .int .i64 wo, .int .i64 li, .bool on, .int .i64 rw, .int .u32 rf, .int .u32 rt, .bool rd, .bool wr, .int .i64 rk, .bool lk]] w fun e w' => e = .returned (.bool ((size == 1 || (size == 2 || size == 4)) && insNone 0 0 false data to ⟨k, ix, wo, li, ⟨on, rw, rf, rt, rd, wr, rk, lk⟩⟩)) ∧ Below w.heap.size w w' := by
  by_cases h1 : size = 1
  · skip
    subst h1
    go_enter Tryz.func105, Tryz.ntmps105
    go_wp2_with (first | (go_at_call 107; refine (none_any _ _ _ _ _ _ _ _ _ _ _ _ _ _ _ _ _ _ _).mono ?_; rintro e w' ⟨rfl, hb⟩) | go_in | ((with_reducible refine wpl_load 88 _ rfl ?_ _ _ ?_ _ _ (CellsAt.new _ _ _) Tryz.underlying88 rfl (by kernel_rfl) ?_); (· rfl); (· rfl)))
    go_ret
    exact ⟨by simp, ((Below.refl _ _).alloc (Nat.le_refl _) _).trans (hb.mono (by simp))⟩
  by_cases h2 : size = 2
  · skip
    subst h2
    go_enter Tryz.func105, Tryz.ntmps105
    go_wp2_with (first | (go_at_call 107; refine (none_any _ _ _ _ _ _ _ _ _ _ _ _ _ _ _ _ _ _ _).mono ?_; rintro e w' ⟨rfl, hb⟩) | go_in | ((with_reducible refine wpl_load 88 _ rfl ?_ _ _ ?_ _ _ (CellsAt.new _ _ _) Tryz.underlying88 rfl (by kernel_rfl) ?_); (· rfl); (· rfl)))
    go_ret
    exact ⟨by simp, ((Below.refl _ _).alloc (Nat.le_refl _) _).trans (hb.mono (by simp))⟩
  by_cases h4 : size = 4
  · skip
    subst h4
    go_enter Tryz.func105, Tryz.ntmps105
    go_wp2_with (first | (go_at_call 107; refine (none_any _ _ _ _ _ _ _ _ _ _ _ _ _ _ _ _ _ _ _).mono ?_; rintro e w' ⟨rfl, hb⟩) | go_in | ((with_reducible refine wpl_load 88 _ rfl ?_ _ _ ?_ _ _ (CellsAt.new _ _ _) Tryz.underlying88 rfl (by kernel_rfl) ?_); (· rfl); (· rfl)))
    go_ret
    exact ⟨by simp, ((Below.refl _ _).alloc (Nat.le_refl _) _).trans (hb.mono (by simp))⟩
  go_enter Tryz.func105, Tryz.ntmps105
  go_wp2_with (first | (go_at_call 107; refine (none_any _ _ _ _ _ _ _ _ _ _ _ _ _ _ _ _ _ _ _).mono ?_; rintro e w' ⟨rfl, hb⟩) | go_in | ((with_reducible refine wpl_load 88 _ rfl ?_ _ _ ?_ _ _ (CellsAt.new _ _ _) Tryz.underlying88 rfl (by kernel_rfl) ?_); (· rfl); (· rfl)))
  go_ret
  exact ⟨by simp [*], (Below.refl _ _).alloc (Nat.le_refl _) _⟩
set_option maxRecDepth 100000 in
set_option maxHeartbeats 1000000 in
theorem shStore_any (op size addr data to k ix wo li rw rf rt rk : Int) (idx on rd wr lk : Bool) (w : World) (_h9 : data ≤ 4294967295) :
    Calls Tryz.prog 106 #[.agg #[.int .i64 op, .int .i64 size, .int .u32 addr, .bool idx, .int .u32 data, .int .i64 to, .int .i64 k, .int .i64 ix, .int .i64 wo, .int .i64 li, .bool on, .int .i64 rw, .int .u32 rf, .int .u32 rt, .bool rd, .bool wr, .int .i64 rk, .bool lk]] w fun e w' => e = .returned (.bool ((size == 1 || (size == 2 || size == 4)) && insNone 0 0 false 0 to ⟨k, ix, wo, li, ⟨on, rw, rf, rt, rd, wr, rk, lk⟩⟩)) ∧ Below w.heap.size w w' := by
  by_cases h1 : size = 1
  · skip
    subst h1
    go_enter Tryz.func106, Tryz.ntmps106
    go_wp2_with (first | (go_at_call 107; refine (none_any _ _ _ _ _ _ _ _ _ _ _ _ _ _ _ _ _ _ _).mono ?_; rintro e w' ⟨rfl, hb⟩) | go_in | ((with_reducible refine wpl_load 88 _ rfl ?_ _ _ ?_ _ _ (CellsAt.new _ _ _) Tryz.underlying88 rfl (by kernel_rfl) ?_); (· rfl); (· rfl)))
    go_ret
    exact ⟨by simp, ((Below.refl _ _).alloc (Nat.le_refl _) _).trans (hb.mono (by simp))⟩
  by_cases h2 : size = 2
  · skip
    subst h2
    go_enter Tryz.func106, Tryz.ntmps106
    go_wp2_with (first | (go_at_call 107; refine (none_any _ _ _ _ _ _ _ _ _ _ _ _ _ _ _ _ _ _ _).mono ?_; rintro e w' ⟨rfl, hb⟩) | go_in | ((with_reducible refine wpl_load 88 _ rfl ?_ _ _ ?_ _ _ (CellsAt.new _ _ _) Tryz.underlying88 rfl (by kernel_rfl) ?_); (· rfl); (· rfl)))
    go_ret
    exact ⟨by simp, ((Below.refl _ _).alloc (Nat.le_refl _) _).trans (hb.mono (by simp))⟩
  by_cases h4 : size = 4
  · skip
    subst h4
    go_enter Tryz.func106, Tryz.ntmps106
    go_wp2_with (first | (go_at_call 107; refine (none_any _ _ _ _ _ _ _ _ _ _ _ _ _ _ _ _ _ _ _).mono ?_; rintro e w' ⟨rfl, hb⟩) | go_in | ((with_reducible refine wpl_load 88 _ rfl ?_ _ _ ?_ _ _ (CellsAt.new _ _ _) Tryz.underlying88 rfl (by kernel_rfl) ?_); (· rfl); (· rfl)))
    go_ret
    exact ⟨by simp, ((Below.refl _ _).alloc (Nat.le_refl _) _).trans (hb.mono (by simp))⟩
  go_enter Tryz.func106, Tryz.ntmps106
  go_wp2_with (first | (go_at_call 107; refine (none_any _ _ _ _ _ _ _ _ _ _ _ _ _ _ _ _ _ _ _).mono ?_; rintro e w' ⟨rfl, hb⟩) | go_in | ((with_reducible refine wpl_load 88 _ rfl ?_ _ _ ?_ _ _ (CellsAt.new _ _ _) Tryz.underlying88 rfl (by kernel_rfl) ?_); (· rfl); (· rfl)))
  go_ret
  exact ⟨by simp [*], (Below.refl _ _).alloc (Nat.le_refl _) _⟩
set_option maxRecDepth 100000 in
set_option maxHeartbeats 1000000 in
theorem shBranch_any (op size addr data to k ix wo li rw rf rt rk : Int) (idx on rd wr lk : Bool) (w : World) (_h9 : data ≤ 4294967295) :
    Calls Tryz.prog 108 #[.agg #[.int .i64 op, .int .i64 size, .int .u32 addr, .bool idx, .int .u32 data, .int .i64 to, .int .i64 k, .int .i64 ix, .int .i64 wo, .int .i64 li, .bool on, .int .i64 rw, .int .u32 rf, .int .u32 rt, .bool rd, .bool wr, .int .i64 rk, .bool lk]] w fun e w' => e = .returned (.bool ((decide (0 ≤ to) && decide (to ≤ 64)) && insNone size addr idx 0 0 ⟨k, ix, wo, li, ⟨on, rw, rf, rt, rd, wr, rk, lk⟩⟩)) ∧ Below w.heap.size w w' := by
  by_cases t0 : to < 0
  · skip
    have t0n : decide (0 ≤ to) = false := by simp; omega
    go_enter Tryz.func108, Tryz.ntmps108
    go_wp2_with (first | (go_at_call 107; refine (none_any _ _ _ _ _ _ _ _ _ _ _ _ _ _ _ _ _ _ _).mono ?_; rintro e w' ⟨rfl, hb⟩) | go_in | ((with_reducible refine wpl_load 88 _ rfl ?_ _ _ ?_ _ _ (CellsAt.new _ _ _) Tryz.underlying88 rfl (by kernel_rfl) ?_); (· rfl); (· rfl)))
    go_ret
    exact ⟨by simp <;> omega, (Below.refl _ _).alloc (Nat.le_refl _) _⟩
  by_cases t9 : 64 < to
  · skip
    have t9n : decide (to ≤ 64) = false := by simp; omega
    go_enter Tryz.func108, Tryz.ntmps108
    go_wp2_with (first | (go_at_call 107; refine (none_any _ _ _ _ _ _ _ _ _ _ _ _ _ _ _ _ _ _ _).mono ?_; rintro e w' ⟨rfl, hb⟩) | go_in | ((with_reducible refine wpl_load 88 _ rfl ?_ _ _ ?_ _ _ (CellsAt.new _ _ _) Tryz.underlying88 rfl (by kernel_rfl) ?_); (· rfl); (· rfl)))
    go_ret
    exact ⟨by simp <;> omega, (Below.refl _ _).alloc (Nat.le_refl _) _⟩
  have t0' : 0 ≤ to := by omega
  clear t0
  have t9' : to ≤ 64 := by omega
  clear t9
  go_enter Tryz.func108, Tryz.ntmps108
  go_wp2_with (first | (go_at_call 107; refine (none_any _ _ _ _ _ _ _ _ _ _ _ _ _ _ _ _ _ _ _).mono ?_; rintro e w' ⟨rfl, hb⟩) | go_in | ((with_reducible refine wpl_load 88 _ rfl ?_ _ _ ?_ _ _ (CellsAt.new _ _ _) Tryz.underlying88 rfl (by kernel_rfl) ?_); (· rfl); (· rfl)))
  go_ret
  exact ⟨by simp <;> omega, ((Below.refl _ _).alloc (Nat.le_refl _) _).trans (hb.mono (by simp))⟩
set_option maxRecDepth 100000 in
set_option maxHeartbeats 1000000 in
theorem shJump_any (op size addr data to k ix wo li rw rf rt rk : Int) (idx on rd wr lk : Bool) (w : World) :
    Calls Tryz.prog 109 #[.agg #[.int .i64 op, .int .i64 size, .int .u32 addr, .bool idx, .int .u32 data, .int .i64 to, .int .i64 k, .int .i64 ix, .int .i64 wo, .int .i64 li, .bool on, .int .i64 rw, .int .u32 rf, .int .u32 rt, .bool rd, .bool wr, .int .i64 rk, .bool lk]] w fun e w' => e = .returned (.bool ((decide (0 ≤ to) && decide (to ≤ 64)) && insNone size addr idx data 0 ⟨k, ix, wo, li, ⟨on, rw, rf, rt, rd, wr, rk, lk⟩⟩)) ∧ Below w.heap.size w w' := by
  by_cases t0 : to < 0
  · skip
    have t0n : decide (0 ≤ to) = false := by simp; omega
    go_enter Tryz.func109, Tryz.ntmps109
    go_wp2_with (first | (go_at_call 107; refine (none_any _ _ _ _ _ _ _ _ _ _ _ _ _ _ _ _ _ _ _).mono ?_; rintro e w' ⟨rfl, hb⟩) | go_in | ((with_reducible refine wpl_load 88 _ rfl ?_ _ _ ?_ _ _ (CellsAt.new _ _ _) Tryz.underlying88 rfl (by kernel_rfl) ?_); (· rfl); (· rfl)))
    go_ret
    exact ⟨by simp <;> omega, (Below.refl _ _).alloc (Nat.le_refl _) _⟩
  by_cases t9 : 64 < to
  · skip
    have t9n : decide (to ≤ 64) = false := by simp; omega
    go_enter Tryz.func109, Tryz.ntmps109
    go_wp2_with (first | (go_at_call 107; refine (none_any _ _ _ _ _ _ _ _ _ _ _ _ _ _ _ _ _ _ _).mono ?_; rintro e w' ⟨rfl, hb⟩) | go_in | ((with_reducible refine wpl_load 88 _ rfl ?_ _ _ ?_ _ _ (CellsAt.new _ _ _) Tryz.underlying88 rfl (by kernel_rfl) ?_); (· rfl); (· rfl)))
    go_ret
    exact ⟨by simp <;> omega, (Below.refl _ _).alloc (Nat.le_refl _) _⟩
  have t0' : 0 ≤ to := by omega
  clear t0
  have t9' : to ≤ 64 := by omega
  clear t9
  go_enter Tryz.func109, Tryz.ntmps109
  go_wp2_with (first | (go_at_call 107; refine (none_any _ _ _ _ _ _ _ _ _ _ _ _ _ _ _ _ _ _ _).mono ?_; rintro e w' ⟨rfl, hb⟩) | go_in | ((with_reducible refine wpl_load 88 _ rfl ?_ _ _ ?_ _ _ (CellsAt.new _ _ _) Tryz.underlying88 rfl (by kernel_rfl) ?_); (· rfl); (· rfl)))
  go_ret
  exact ⟨by simp <;> omega, ((Below.refl _ _).alloc (Nat.le_refl _) _).trans (hb.mono (by simp))⟩
set_option maxRecDepth 100000 in
set_option maxHeartbeats 1000000 in
theorem shIdle_any (op size addr data to k ix wo li rw rf rt rk : Int) (idx on rd wr lk : Bool) (w : World) :
    Calls Tryz.prog 110 #[.agg #[.int .i64 op, .int .i64 size, .int .u32 addr, .bool idx, .int .u32 data, .int .i64 to, .int .i64 k, .int .i64 ix, .int .i64 wo, .int .i64 li, .bool on, .int .i64 rw, .int .u32 rf, .int .u32 rt, .bool rd, .bool wr, .int .i64 rk, .bool lk]] w fun e w' => e = .returned (.bool (decide (data ≤ 9999) && insNone size addr idx 0 to ⟨k, ix, wo, li, ⟨on, rw, rf, rt, rd, wr, rk, lk⟩⟩)) ∧ Below w.heap.size w w' := by
  by_cases d9 : 9999 < data
  · skip
    have d9n : decide (data ≤ 9999) = false := by simp; omega
    go_enter Tryz.func110, Tryz.ntmps110
    go_wp2_with (first | (go_at_call 107; refine (none_any _ _ _ _ _ _ _ _ _ _ _ _ _ _ _ _ _ _ _).mono ?_; rintro e w' ⟨rfl, hb⟩) | go_in | ((with_reducible refine wpl_load 88 _ rfl ?_ _ _ ?_ _ _ (CellsAt.new _ _ _) Tryz.underlying88 rfl (by kernel_rfl) ?_); (· rfl); (· rfl)))
    go_ret
    exact ⟨by simp <;> omega, (Below.refl _ _).alloc (Nat.le_refl _) _⟩
  have d9' : data ≤ 9999 := by omega
  clear d9
  go_enter Tryz.func110, Tryz.ntmps110
  go_wp2_with (first | (go_at_call 107; refine (none_any _ _ _ _ _ _ _ _ _ _ _ _ _ _ _ _ _ _ _).mono ?_; rintro e w' ⟨rfl, hb⟩) | go_in | ((with_reducible refine wpl_load 88 _ rfl ?_ _ _ ?_ _ _ (CellsAt.new _ _ _) Tryz.underlying88 rfl (by kernel_rfl) ?_); (· rfl); (· rfl)))
  go_ret
  exact ⟨by simp <;> omega, ((Below.refl _ _).alloc (Nat.le_refl _) _).trans (hb.mono (by simp))⟩
set_option maxRecDepth 100000 in
set_option maxHeartbeats 1000000 in
theorem shMask_any (op size addr data to k ix wo li rw rf rt rk : Int) (idx on rd wr lk : Bool) (w : World) :
    Calls Tryz.prog 111 #[.agg #[.int .i64 op, .int .i64 size, .int .u32 addr, .bool idx, .int .u32 data, .int .i64 to, .int .i64 k, .int .i64 ix, .int .i64 wo, .int .i64 li, .bool on, .int .i64 rw, .int .u32 rf, .int .u32 rt, .bool rd, .bool wr, .int .i64 rk, .bool lk]] w fun e w' => e = .returned (.bool (decide (data ≤ 255) && insNone size addr idx 0 to ⟨k, ix, wo, li, ⟨on, rw, rf, rt, rd, wr, rk, lk⟩⟩)) ∧ Below w.heap.size w w' := by
  by_cases d9 : 255 < data
  · skip
    have d9n : decide (data ≤ 255) = false := by simp; omega
    go_enter Tryz.func111, Tryz.ntmps111
    go_wp2_with (first | (go_at_call 107; refine (none_any _ _ _ _ _ _ _ _ _ _ _ _ _ _ _ _ _ _ _).mono ?_; rintro e w' ⟨rfl, hb⟩) | go_in | ((with_reducible refine wpl_load 88 _ rfl ?_ _ _ ?_ _ _ (CellsAt.new _ _ _) Tryz.underlying88 rfl (by kernel_rfl) ?_); (· rfl); (· rfl)))
    go_ret
    exact ⟨by simp <;> omega, (Below.refl _ _).alloc (Nat.le_refl _) _⟩
  have d9' : data ≤ 255 := by omega
  clear d9
  go_enter Tryz.func111, Tryz.ntmps111
  go_wp2_with (first | (go_at_call 107; refine (none_any _ _ _ _ _ _ _ _ _ _ _ _ _ _ _ _ _ _ _).mono ?_; rintro e w' ⟨rfl, hb⟩) | go_in | ((with_reducible refine wpl_load 88 _ rfl ?_ _ _ ?_ _ _ (CellsAt.new _ _ _) Tryz.underlying88 rfl (by kernel_rfl) ?_); (· rfl); (· rfl)))
  go_ret
  exact ⟨by simp <;> omega, ((Below.refl _ _).alloc (Nat.le_refl _) _).trans (hb.mono (by simp))⟩
end Go.Proofs.YtmjojlacpgdomaaGreatDoor
