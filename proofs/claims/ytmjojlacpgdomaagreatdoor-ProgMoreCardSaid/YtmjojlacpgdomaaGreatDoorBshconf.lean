import Derived.Test.YtmjojlacpgdomaaGreatDoorAshape
import Derived.Test.YtmjojlacpgdomaaGreatDoorAconf2
import Derived.Lib.Hide
/-! (prog.shape).conf. -/
namespace Go.Proofs.YtmjojlacpgdomaaGreatDoor
set_option linter.unusedSimpArgs false
set_option linter.unusedVariables false
open Go Go.RowKit
theorem below_row' {B : Nat} (w : World) (g : Nat) (c : Array Value) (hg : B ≤ g) : Below B w (w.setRow g c) :=
  ⟨rfl, rfl, rfl, by simp [World.setRow], fun k hk => by simp only [World.setRow, Array.getElem?_modify]; rw [if_neg (by omega)]⟩
set_option maxRecDepth 100000 in
set_option maxHeartbeats 1000000 in
theorem shConf_true (op size addr data to k ix wo li rw rf rt rk : Int) (idx on rd wr lk : Bool) (w : World) (hcr : Hid (cmdRight ⟨k, ix, wo, li, ⟨on, rw, rf, rt, rd, wr, rk, lk⟩⟩ = true)) :
    Calls Tryz.prog 112 #[.agg #[.int .i64 op, .int .i64 size, .int .u32 addr, .bool idx, .int .u32 data, .int .i64 to, .int .i64 k, .int .i64 ix, .int .i64 wo, .int .i64 li, .bool on, .int .i64 rw, .int .u32 rf, .int .u32 rt, .bool rd, .bool wr, .int .i64 rk, .bool lk]] w fun e w' => e = .returned (.bool (true && insNone size addr idx data to .zero)) ∧ Below w.heap.size w w' := by
  have hcall := fun W => right_any k ix wo li rw rf rt rk on rd wr lk W
  rw [hcr.out] at hcall
  clear hcr
  go_enter Tryz.func112, Tryz.ntmps112
  go_wp2_with (first | ((with_reducible refine wpl_load 31 _ rfl ?_ w.heap.size 6 ?_ _ _ (CellsAt.sub (heap_alloc_new w _) 6 12) Tryz.underlying31 rfl ?_ ?_); (· rfl); (· rfl); (· kernel_rfl)) | (go_at_call 129; (with_reducible refine (hcall _).mono ?_); rintro e w1 ⟨rfl, hb1⟩; have hrow1 := (hb1.block w.heap.size (by simp)).trans (heap_alloc_new w _); have hs1 := hb1.size; simp at hs1) | ((guard_target =~ wpList _ _ _ [_] _ _); (refine wpl_store 31 _ _ rfl ?_ w.heap.size 6 _ _ _ hrow1 ?_ rfl ?_ ?_ ?_ _ rfl ?_); (· rfl); (· rfl); (· kernel_rfl); (· simp); (· rfl); simp only [List.take, List.drop, List.nil_append, List.append_nil, List.cons_append]; have hrow2 := setRow_heap w1 w.heap.size _ #[.int .i64 op, .int .i64 size, .int .u32 addr, .bool idx, .int .u32 data, .int .i64 to, .int .i64 0, .int .i64 0, .int .i64 0, .int .i64 0, .bool false, .int .i64 0, .int .u32 0, .int .u32 0, .bool false, .bool false, .int .i64 0, .bool false] 88 (0, 0) hrow1) | ((with_reducible refine wpl_load 88 _ rfl ?_ w.heap.size 0 ?_ _ _ (CellsAt.of_block hrow2) Tryz.underlying88 rfl (by kernel_rfl) ?_); (· rfl); (· rfl)) | (go_at_call 107; (with_reducible refine (none_any op size addr data to 0 0 0 0 0 0 0 0 idx false false false false _).mono ?_); rintro e w2 ⟨rfl, hb2⟩; have hs2 := hb2.size; simp at hs2))
  go_ret
  exact ⟨by simp [Cmd.zero, Reg.zero], ((((Below.refl _ _).alloc (Nat.le_refl _) _).trans (hb1.mono (by simp))).trans (below_row' _ _ _ (Nat.le_refl _))).trans (hb2.mono (by simp [World.setRow]; omega))⟩
set_option maxRecDepth 100000 in
set_option maxHeartbeats 1000000 in
theorem shConf_false (op size addr data to k ix wo li rw rf rt rk : Int) (idx on rd wr lk : Bool) (w : World) (hcr : Hid (cmdRight ⟨k, ix, wo, li, ⟨on, rw, rf, rt, rd, wr, rk, lk⟩⟩ = false)) :
    Calls Tryz.prog 112 #[.agg #[.int .i64 op, .int .i64 size, .int .u32 addr, .bool idx, .int .u32 data, .int .i64 to, .int .i64 k, .int .i64 ix, .int .i64 wo, .int .i64 li, .bool on, .int .i64 rw, .int .u32 rf, .int .u32 rt, .bool rd, .bool wr, .int .i64 rk, .bool lk]] w fun e w' => e = .returned (.bool (false && insNone size addr idx data to .zero)) ∧ Below w.heap.size w w' := by
  have hcall := fun W => right_any k ix wo li rw rf rt rk on rd wr lk W
  rw [hcr.out] at hcall
  clear hcr
  go_enter Tryz.func112, Tryz.ntmps112
  go_wp2_with (first | ((with_reducible refine wpl_load 31 _ rfl ?_ w.heap.size 6 ?_ _ _ (CellsAt.sub (heap_alloc_new w _) 6 12) Tryz.underlying31 rfl ?_ ?_); (· rfl); (· rfl); (· kernel_rfl)) | (go_at_call 129; (with_reducible refine (hcall _).mono ?_); rintro e w1 ⟨rfl, hb1⟩; have hrow1 := (hb1.block w.heap.size (by simp)).trans (heap_alloc_new w _); have hs1 := hb1.size; simp at hs1) | ((guard_target =~ wpList _ _ _ [_] _ _); (refine wpl_store 31 _ _ rfl ?_ w.heap.size 6 _ _ _ hrow1 ?_ rfl ?_ ?_ ?_ _ rfl ?_); (· rfl); (· rfl); (· kernel_rfl); (· simp); (· rfl); simp only [List.take, List.drop, List.nil_append, List.append_nil, List.cons_append]; have hrow2 := setRow_heap w1 w.heap.size _ #[.int .i64 op, .int .i64 size, .int .u32 addr, .bool idx, .int .u32 data, .int .i64 to, .int .i64 0, .int .i64 0, .int .i64 0, .int .i64 0, .bool false, .int .i64 0, .int .u32 0, .int .u32 0, .bool false, .bool false, .int .i64 0, .bool false] 88 (0, 0) hrow1) | ((with_reducible refine wpl_load 88 _ rfl ?_ w.heap.size 0 ?_ _ _ (CellsAt.of_block hrow2) Tryz.underlying88 rfl (by kernel_rfl) ?_); (· rfl); (· rfl)) | (go_at_call 107; (with_reducible refine (none_any op size addr data to 0 0 0 0 0 0 0 0 idx false false false false _).mono ?_); rintro e w2 ⟨rfl, hb2⟩; have hs2 := hb2.size; simp at hs2))
  go_ret
  exact ⟨by simp [Cmd.zero, Reg.zero], ((((Below.refl _ _).alloc (Nat.le_refl _) _).trans (hb1.mono (by simp))).trans (below_row' _ _ _ (Nat.le_refl _)))⟩
theorem shConf_any (op size addr data to k ix wo li rw rf rt rk : Int) (idx on rd wr lk : Bool) (w : World) :
    Calls Tryz.prog 112 #[.agg #[.int .i64 op, .int .i64 size, .int .u32 addr, .bool idx, .int .u32 data, .int .i64 to, .int .i64 k, .int .i64 ix, .int .i64 wo, .int .i64 li, .bool on, .int .i64 rw, .int .u32 rf, .int .u32 rt, .bool rd, .bool wr, .int .i64 rk, .bool lk]] w fun e w' => e = .returned (.bool (cmdRight ⟨k, ix, wo, li, ⟨on, rw, rf, rt, rd, wr, rk, lk⟩⟩ && insNone size addr idx data to .zero)) ∧ Below w.heap.size w w' := by
  cases h : cmdRight ⟨k, ix, wo, li, ⟨on, rw, rf, rt, rd, wr, rk, lk⟩⟩ with
  | true => exact shConf_true op size addr data to k ix wo li rw rf rt rk idx on rd wr lk w (Lib.hid h)
  | false => exact shConf_false op size addr data to k ix wo li rw rf rt rk idx on rd wr lk w (Lib.hid h)
end Go.Proofs.YtmjojlacpgdomaaGreatDoor
