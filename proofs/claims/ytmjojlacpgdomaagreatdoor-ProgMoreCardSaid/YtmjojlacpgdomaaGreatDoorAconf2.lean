import Derived.Test.YtmjojlacpgdomaaGreatDoorAconf
import Derived.Deep.RegionHeld3
import Derived.Deep.QuietTactic
import Derived.BigQuiet
namespace Go.Proofs.YtmjojlacpgdomaaGreatDoor
set_option linter.unusedSimpArgs false
set_option linter.unusedVariables false
open Go Go.RowKit
attribute [local go_sem] setRow_new setRow_old
/-! A whole struct read in a region that draws its order: the rule for the whole operation. -/
def rowOf (W : World) (b : Nat) : Array Value := match W.heap[b]? with | some (.cells c _ _) => c | _ => #[]
def IsRow (W : World) (b n : Nat) : Prop := (rowOf W b).size = n
def blockV : Value → Nat
  | .pointer (some a) => a.block
  | _ => 0
def IsRowV (W : World) (n : Nat) : Value → Prop
  | .pointer (some ⟨b, 0, none⟩) => 0 < n ∧ IsRow W b n
  | _ => False
theorem isRowV_ptr (W : World) (n b : Nat) : IsRowV W n (.pointer (some ⟨b, 0, none⟩)) = (0 < n ∧ IsRow W b n) := rfl
theorem blockV_ptr (b o : Nat) : blockV (.pointer (some ⟨b, o, none⟩)) = b := rfl
theorem ldOp31 (ρ : Operand → Value) (dst : Option Tmp) (x : Operand) (ty : TypeId) (pos : String) (after : Array Edge) (gd : Option (Nat × Bool)) (W : World) (h : IsRowV W 12 (ρ x)) :
    (execOp ρ ⟨dst, .load 31 x, ty, pos, after, gd⟩).run Tryz.prog W = .ok (.value (.agg (rowOf W (blockV (ρ x))))) W := by
  cases hv : ρ x with
  | pointer a =>
    rw [hv] at h
    match a, h with
    | some ⟨b, 0, none⟩, h =>
      have hr := h.2
      unfold IsRow rowOf at hr
      cases hh : W.heap[b]? with
      | none => simp [hh] at hr
      | some o =>
        cases o with
        | cells c t fr =>
          simp [hh] at hr
          have hl := run_loadVar_cells (P := Tryz.prog) (ty := 31) (CellsAt.of_block (cs := c.toList) (t := t) (fr := fr) (by simpa using hh)) Tryz.underlying31 rfl (by rw [Array.length_toList, hr]; kernel_rfl)
          unfold execOp
          simp only [hv, Instr.loadAt, Instr.sureAddr, Sem.run_bind, Sem.run_pure, Result.andThen_ok, hl, blockV_ptr, rowOf, hh, Array.toArray_toList]
        | _ => simp [hh] at hr
  | _ => rw [hv] at h; exact h.elim
def eqReg (a b : Reg) : Bool := a.on == b.on && (a.rw == b.rw && ((a.rf == b.rf && a.rt == b.rt) && (a.rd == b.rd && (a.wr == b.wr && (a.rk == b.rk && a.lk == b.lk)))))
def eqCmd (a b : Cmd) : Bool := a.k == b.k && (a.ix == b.ix && (a.wo == b.wo && (a.li == b.li && eqReg a.reg b.reg)))
theorem seq31b (d : Nat) (w : World) (x0 y0 x1 y1 x2 y2 x3 y3 : Int) (x4 y4 : Bool) (x5 y5 x6 y6 x7 y7 : Int) (x8 y8 x9 y9 : Bool) (x10 y10 : Int) (x11 y11 : Bool) :
    (Op.equalIn (d + 4) 31 (.agg #[.int .i64 x0, .int .i64 x1, .int .i64 x2, .int .i64 x3, .bool x4, .int .i64 x5, .int .u32 x6, .int .u32 x7, .bool x8, .bool x9, .int .i64 x10, .bool x11]) (.agg #[.int .i64 y0, .int .i64 y1, .int .i64 y2, .int .i64 y3, .bool y4, .int .i64 y5, .int .u32 y6, .int .u32 y7, .bool y8, .bool y9, .int .i64 y10, .bool y11])).run Tryz.prog w = .ok (eqCmd ⟨x0, x1, x2, x3, ⟨x4, x5, x6, x7, x8, x9, x10, x11⟩⟩ ⟨y0, y1, y2, y3, ⟨y4, y5, y6, y7, y8, y9, y10, y11⟩⟩) w :=
  seq31 d w x0 y0 x1 y1 x2 y2 x3 y3 x4 y4 x5 y5 x6 y6 x7 y7 x8 y8 x9 y9 x10 y10 x11 y11
attribute [local go_sem high] seq31b
attribute [local go_sem ↓] ldOp31
attribute [local go_sem] isRowV_ptr blockV_ptr
theorem below_cell {W w1 : World} (hb : Below W.heap.size W w1) : ∀ b o, b < W.heap.size → w1.cell? ⟨b, o, none⟩ = W.cell? ⟨b, o, none⟩ := fun b o h => hb.cell (p := ⟨b, o, none⟩) h
theorem keep129 {W0 W : World} {b : Nat} {cs : Array Value} {v0 v1 : Value} (hcl : W0.heap[b]? = some (.cells cs 31)) (hs : cs.size = 12) (hB : Below (b + 1) W0 W) (h0 : cs[0]? = some v0) (h1 : cs[1]? = some v1) :
    W.cell? ⟨b, 0, none⟩ = some v0 ∧ W.cell? ⟨b, 1, none⟩ = some v1 ∧ IsRow W b 12 ∧ rowOf W b = cs := by
  have h := (hB.block b (by omega)).trans hcl
  exact ⟨by simp [World.cell?, h, h0], by simp [World.cell?, h, h1], by simp [IsRow, rowOf, h, hs], by simp [rowOf, h]⟩
theorem rowOf_of {W : World} {b : Nat} {cs : Array Value} {T : TypeId} (hb : W.heap[b]? = some (.cells cs T)) : rowOf W b = cs := by simp [rowOf, hb]
theorem isRow_of {W : World} {b : Nat} {cs : Array Value} {T : TypeId} (hb : W.heap[b]? = some (.cells cs T)) : IsRow W b cs.size := by simp [IsRow, rowOf, hb]
set_option maxRecDepth 100000 in
set_option maxHeartbeats 1000000 in
theorem named_as (k ix wo li rw rf rt rk : Int) (on rd wr lk : Bool) (n : Cmd) (hn : Hid (cmdNamed ⟨k, ix, wo, li, ⟨on, rw, rf, rt, rd, wr, rk, lk⟩⟩ = n)) (w : World) :
    Calls Tryz.prog 215 #[.agg #[.int .i64 k, .int .i64 ix, .int .i64 wo, .int .i64 li, .bool on, .int .i64 rw, .int .u32 rf, .int .u32 rt, .bool rd, .bool wr, .int .i64 rk, .bool lk]] w fun e w' => e = .returned (.agg #[.int .i64 n.k, .int .i64 n.ix, .int .i64 n.wo, .int .i64 n.li, .bool n.reg.on, .int .i64 n.reg.rw, .int .u32 n.reg.rf, .int .u32 n.reg.rt, .bool n.reg.rd, .bool n.reg.wr, .int .i64 n.reg.rk, .bool n.reg.lk]) ∧ Below w.heap.size w w' := by
  have h := named_any k ix wo li rw rf rt rk on rd wr lk w
  rw [hn.out] at h
  exact h
set_option maxRecDepth 100000 in
set_option maxHeartbeats 1000000 in
theorem right_lo (k ix wo li rw rf rt rk : Int) (on rd wr lk : Bool) (n : Cmd) (hn : Hid (cmdNamed ⟨k, ix, wo, li, ⟨on, rw, rf, rt, rd, wr, rk, lk⟩⟩ = n)) (w : World) (h0 : k < 1) :
    Calls Tryz.prog 129 #[.agg #[.int .i64 k, .int .i64 ix, .int .i64 wo, .int .i64 li, .bool on, .int .i64 rw, .int .u32 rf, .int .u32 rt, .bool rd, .bool wr, .int .i64 rk, .bool lk]] w fun e w' => e = .returned (.bool (false)) ∧ Below w.heap.size w w' := by
  have hcl : (w.alloc (.cells #[.int .i64 k, .int .i64 ix, .int .i64 wo, .int .i64 li, .bool on, .int .i64 rw, .int .u32 rf, .int .u32 rt, .bool rd, .bool wr, .int .i64 rk, .bool lk] 31)).heap[w.heap.size]? = some (.cells #[.int .i64 k, .int .i64 ix, .int .i64 wo, .int .i64 li, .bool on, .int .i64 rw, .int .u32 rf, .int .u32 rt, .bool rd, .bool wr, .int .i64 rk, .bool lk] 31) := heap_alloc_new _ _
  have hc0 : (w.alloc (.cells #[.int .i64 k, .int .i64 ix, .int .i64 wo, .int .i64 li, .bool on, .int .i64 rw, .int .u32 rf, .int .u32 rt, .bool rd, .bool wr, .int .i64 rk, .bool lk] 31)).cell? ⟨w.heap.size, 0, none⟩ = some (.int .i64 k) := by simp
  have hc1 : (w.alloc (.cells #[.int .i64 k, .int .i64 ix, .int .i64 wo, .int .i64 li, .bool on, .int .i64 rw, .int .u32 rf, .int .u32 rt, .bool rd, .bool wr, .int .i64 rk, .bool lk] 31)).cell? ⟨w.heap.size, 1, none⟩ = some (.int .i64 ix) := by simp
  have hn0 : decide (k < 1) = true := by simp; omega
  clear h0
  go_enter Tryz.func129, Tryz.ntmps129
  go_wp2_with fail
  refine region_start (S := (fun W => W.cell? ⟨w.heap.size, 0, none⟩ = some (.int .i64 k) ∧ W.cell? ⟨w.heap.size, 1, none⟩ = some (.int .i64 ix) ∧ IsRow W w.heap.size 12 ∧ rowOf W w.heap.size = #[.int .i64 k, .int .i64 ix, .int .i64 wo, .int .i64 li, .bool on, .int .i64 rw, .int .u32 rf, .int .u32 rt, .bool rd, .bool wr, .int .i64 rk, .bool lk])) 21 rfl #[false, false, false, false, false, false, false, false, false, false, false, false, false, false, false, false, false, false, false, false, false] rfl (by kernel_rfl) ?_
  refine region_s ?_ ?_
  · exact keep129 hcl rfl (by repeat (first | exact Below.refl _ _ | refine Below.drew ?_ | refine Below.alloc ?_ (by first | omega | (simp <;> omega)) _ | (refine Below.trans ?_ (Below.mono (by assumption) (by first | omega | (simp <;> omega)))))) rfl rfl
  intro hS
  refine region_take (i := 0) (oi := ⟨(some 3), (Op.fieldAddr 31 (Operand.tmp 1) 0), 0, _, _, none⟩) (v := ?_) #[true, false, false, false, false, false, false, false, false, false, false, false, false, false, false, false, false, false, false, false, false] rfl (by kernel_rfl) (by kernel_rfl) (by kernel_rfl) (fun _ _ _ h => h) hS ?_ rfl ?_
  rotate_left
  · refine Or.inl ⟨rfl, fun W hW => ?_⟩
    dsimp only at hW
    obtain ⟨hW0, hW1, hW2, hW3⟩ := hW
    go_simp
    try rfl
  try simp only [Act.put, List.setIfInBounds_toArray, List.set_cons_zero, List.set_cons_succ]
  refine region_take (i := 1) (oi := ⟨(some 4), (Op.load 25 (Operand.tmp 3)), 25, _, _, none⟩) (v := ?_) #[true, true, false, false, false, false, false, false, false, false, false, false, false, false, false, false, false, false, false, false, false] rfl (by kernel_rfl) (by kernel_rfl) (by kernel_rfl) (fun _ _ _ h => h) hS ?_ rfl ?_
  rotate_left
  · refine Or.inl ⟨rfl, fun W hW => ?_⟩
    dsimp only at hW
    obtain ⟨hW0, hW1, hW2, hW3⟩ := hW
    go_simp
    try rfl
  try simp only [Act.put, List.setIfInBounds_toArray, List.set_cons_zero, List.set_cons_succ]
  refine region_take (i := 2) (oi := ⟨(some 5), (Op.binOp BinOp.lss 25 (Operand.tmp 4) (Operand.const (Value.int IntKind.i64 1)) 25), 4, _, _, none⟩) (v := ?_) #[true, true, true, false, false, false, false, false, false, false, false, false, false, false, false, false, false, false, false, false, false] rfl (by kernel_rfl) (by kernel_rfl) (by kernel_rfl) (fun _ _ _ h => h) hS ?_ rfl ?_
  rotate_left
  · refine Or.inl ⟨rfl, fun W hW => ?_⟩
    dsimp only at hW
    obtain ⟨hW0, hW1, hW2, hW3⟩ := hW
    go_simp
    try rfl
  try simp only [Act.put, List.setIfInBounds_toArray, List.set_cons_zero, List.set_cons_succ]
  refine region_take (i := 3) (oi := ⟨(some 6), (Op.move (Operand.tmp 5)), 4, _, _, none⟩) (v := ?_) #[true, true, true, true, false, false, false, false, false, false, false, false, false, false, false, false, false, false, false, false, false] rfl (by kernel_rfl) (by kernel_rfl) (by kernel_rfl) (fun _ _ _ h => h) hS ?_ rfl ?_
  rotate_left
  · refine Or.inl ⟨rfl, fun W hW => ?_⟩
    dsimp only at hW
    obtain ⟨hW0, hW1, hW2, hW3⟩ := hW
    go_simp
    try rfl
  try simp only [Act.put, List.setIfInBounds_toArray, List.set_cons_zero, List.set_cons_succ]
  refine region_take (i := 4) (oi := ⟨(some 7), (Op.fieldAddr 31 (Operand.tmp 1) 0), 0, _, _, (some (3, false))⟩) (v := undef) #[true, true, true, true, true, false, false, false, false, false, false, false, false, false, false, false, false, false, false, false, false] rfl (by kernel_rfl) (by kernel_rfl) (by kernel_rfl) (fun _ _ _ h => h) hS ?_ rfl ?_
  · exact Or.inr ⟨rfl, rfl⟩
  try simp only [Act.put, List.setIfInBounds_toArray, List.set_cons_zero, List.set_cons_succ]
  refine region_take (i := 5) (oi := ⟨(some 8), (Op.load 25 (Operand.tmp 7)), 25, _, _, (some (3, false))⟩) (v := undef) #[true, true, true, true, true, true, false, false, false, false, false, false, false, false, false, false, false, false, false, false, false] rfl (by kernel_rfl) (by kernel_rfl) (by kernel_rfl) (fun _ _ _ h => h) hS ?_ rfl ?_
  · exact Or.inr ⟨rfl, rfl⟩
  try simp only [Act.put, List.setIfInBounds_toArray, List.set_cons_zero, List.set_cons_succ]
  refine region_take (i := 6) (oi := ⟨(some 9), (Op.binOp BinOp.gtr 25 (Operand.tmp 8) (Operand.const (Value.int IntKind.i64 7)) 25), 4, _, _, (some (3, false))⟩) (v := undef) #[true, true, true, true, true, true, true, false, false, false, false, false, false, false, false, false, false, false, false, false, false] rfl (by kernel_rfl) (by kernel_rfl) (by kernel_rfl) (fun _ _ _ h => h) hS ?_ rfl ?_
  · exact Or.inr ⟨rfl, rfl⟩
  try simp only [Act.put, List.setIfInBounds_toArray, List.set_cons_zero, List.set_cons_succ]
  refine region_take (i := 7) (oi := ⟨(some 10), (Op.pick (Operand.tmp 6) (Operand.const (Value.bool true)) (Operand.tmp 9)), 4, _, _, none⟩) (v := ?_) #[true, true, true, true, true, true, true, true, false, false, false, false, false, false, false, false, false, false, false, false, false] rfl (by kernel_rfl) (by kernel_rfl) (by kernel_rfl) (fun _ _ _ h => h) hS ?_ rfl ?_
  rotate_left
  · refine Or.inl ⟨rfl, fun W hW => ?_⟩
    dsimp only at hW
    obtain ⟨hW0, hW1, hW2, hW3⟩ := hW
    go_simp
    try rfl
  try simp only [Act.put, List.setIfInBounds_toArray, List.set_cons_zero, List.set_cons_succ]
  refine region_take (i := 8) (oi := ⟨(some 11), (Op.move (Operand.tmp 10)), 4, _, _, none⟩) (v := ?_) #[true, true, true, true, true, true, true, true, true, false, false, false, false, false, false, false, false, false, false, false, false] rfl (by kernel_rfl) (by kernel_rfl) (by kernel_rfl) (fun _ _ _ h => h) hS ?_ rfl ?_
  rotate_left
  · refine Or.inl ⟨rfl, fun W hW => ?_⟩
    dsimp only at hW
    obtain ⟨hW0, hW1, hW2, hW3⟩ := hW
    go_simp
    try rfl
  try simp only [Act.put, List.setIfInBounds_toArray, List.set_cons_zero, List.set_cons_succ]
  refine region_take (i := 9) (oi := ⟨(some 12), (Op.load 31 (Operand.tmp 1)), 31, _, _, (some (8, false))⟩) (v := undef) #[true, true, true, true, true, true, true, true, true, true, false, false, false, false, false, false, false, false, false, false, false] rfl (by kernel_rfl) (by kernel_rfl) (by kernel_rfl) (fun _ _ _ h => h) hS ?_ rfl ?_
  · exact Or.inr ⟨rfl, rfl⟩
  try simp only [Act.put, List.setIfInBounds_toArray, List.set_cons_zero, List.set_cons_succ]
  refine region_take (i := 10) (oi := ⟨(some 13), (Op.load 31 (Operand.tmp 1)), 31, _, _, (some (8, false))⟩) (v := undef) #[true, true, true, true, true, true, true, true, true, true, true, false, false, false, false, false, false, false, false, false, false] rfl (by kernel_rfl) (by kernel_rfl) (by kernel_rfl) (fun _ _ _ h => h) hS ?_ rfl ?_
  · exact Or.inr ⟨rfl, rfl⟩
  try simp only [Act.put, List.setIfInBounds_toArray, List.set_cons_zero, List.set_cons_succ]
  refine region_take (i := 11) (oi := ⟨(some 14), (Op.call { callee := (Callee.value (Operand.func 215)), args := #[(Operand.tmp 13)], argTypes := #[31] }), 31, _, _, (some (8, false))⟩) (v := undef) #[true, true, true, true, true, true, true, true, true, true, true, true, false, false, false, false, false, false, false, false, false] rfl (by kernel_rfl) (by kernel_rfl) (by kernel_rfl) (fun _ _ _ h => h) hS ?_ rfl ?_
  · exact Or.inr ⟨rfl, rfl⟩
  try simp only [Act.put, List.setIfInBounds_toArray, List.set_cons_zero, List.set_cons_succ]
  refine region_take (i := 12) (oi := ⟨(some 15), (Op.binOp BinOp.neq 31 (Operand.tmp 12) (Operand.tmp 14) 31), 4, _, _, (some (8, false))⟩) (v := undef) #[true, true, true, true, true, true, true, true, true, true, true, true, true, false, false, false, false, false, false, false, false] rfl (by kernel_rfl) (by kernel_rfl) (by kernel_rfl) (fun _ _ _ h => h) hS ?_ rfl ?_
  · exact Or.inr ⟨rfl, rfl⟩
  try simp only [Act.put, List.setIfInBounds_toArray, List.set_cons_zero, List.set_cons_succ]
  refine region_take (i := 13) (oi := ⟨(some 16), (Op.pick (Operand.tmp 11) (Operand.const (Value.bool true)) (Operand.tmp 15)), 4, _, _, none⟩) (v := ?_) #[true, true, true, true, true, true, true, true, true, true, true, true, true, true, false, false, false, false, false, false, false] rfl (by kernel_rfl) (by kernel_rfl) (by kernel_rfl) (fun _ _ _ h => h) hS ?_ rfl ?_
  rotate_left
  · refine Or.inl ⟨rfl, fun W hW => ?_⟩
    dsimp only at hW
    obtain ⟨hW0, hW1, hW2, hW3⟩ := hW
    go_simp
    try rfl
  try simp only [Act.put, List.setIfInBounds_toArray, List.set_cons_zero, List.set_cons_succ]
  refine region_take (i := 14) (oi := ⟨(some 17), (Op.move (Operand.tmp 16)), 4, _, _, none⟩) (v := ?_) #[true, true, true, true, true, true, true, true, true, true, true, true, true, true, true, false, false, false, false, false, false] rfl (by kernel_rfl) (by kernel_rfl) (by kernel_rfl) (fun _ _ _ h => h) hS ?_ rfl ?_
  rotate_left
  · refine Or.inl ⟨rfl, fun W hW => ?_⟩
    dsimp only at hW
    obtain ⟨hW0, hW1, hW2, hW3⟩ := hW
    go_simp
    try rfl
  try simp only [Act.put, List.setIfInBounds_toArray, List.set_cons_zero, List.set_cons_succ]
  refine region_take (i := 15) (oi := ⟨(some 18), (Op.fieldAddr 31 (Operand.tmp 1) 1), 0, _, _, (some (14, false))⟩) (v := undef) #[true, true, true, true, true, true, true, true, true, true, true, true, true, true, true, true, false, false, false, false, false] rfl (by kernel_rfl) (by kernel_rfl) (by kernel_rfl) (fun _ _ _ h => h) hS ?_ rfl ?_
  · exact Or.inr ⟨rfl, rfl⟩
  try simp only [Act.put, List.setIfInBounds_toArray, List.set_cons_zero, List.set_cons_succ]
  refine region_take (i := 16) (oi := ⟨(some 19), (Op.load 3 (Operand.tmp 18)), 3, _, _, (some (14, false))⟩) (v := undef) #[true, true, true, true, true, true, true, true, true, true, true, true, true, true, true, true, true, false, false, false, false] rfl (by kernel_rfl) (by kernel_rfl) (by kernel_rfl) (fun _ _ _ h => h) hS ?_ rfl ?_
  · exact Or.inr ⟨rfl, rfl⟩
  try simp only [Act.put, List.setIfInBounds_toArray, List.set_cons_zero, List.set_cons_succ]
  refine region_take (i := 17) (oi := ⟨(some 20), (Op.buildSlice 42 1 #[(0, (Operand.tmp 19))]), 42, _, _, (some (14, false))⟩) (v := undef) #[true, true, true, true, true, true, true, true, true, true, true, true, true, true, true, true, true, true, false, false, false] rfl (by kernel_rfl) (by kernel_rfl) (by kernel_rfl) (fun _ _ _ h => h) hS ?_ rfl ?_
  · exact Or.inr ⟨rfl, rfl⟩
  try simp only [Act.put, List.setIfInBounds_toArray, List.set_cons_zero, List.set_cons_succ]
  refine region_take (i := 18) (oi := ⟨(some 21), (Op.call { callee := (Callee.value (Operand.func 216)), args := #[(Operand.const (Value.int IntKind.i64 999)), (Operand.tmp 20)], argTypes := #[3, 42] }), 4, _, _, (some (14, false))⟩) (v := undef) #[true, true, true, true, true, true, true, true, true, true, true, true, true, true, true, true, true, true, true, false, false] rfl (by kernel_rfl) (by kernel_rfl) (by kernel_rfl) (fun _ _ _ h => h) hS ?_ rfl ?_
  · exact Or.inr ⟨rfl, rfl⟩
  try simp only [Act.put, List.setIfInBounds_toArray, List.set_cons_zero, List.set_cons_succ]
  refine region_take (i := 19) (oi := ⟨(some 22), (Op.unOp UnOp.not 4 (Operand.tmp 21)), 4, _, _, (some (14, false))⟩) (v := undef) #[true, true, true, true, true, true, true, true, true, true, true, true, true, true, true, true, true, true, true, true, false] rfl (by kernel_rfl) (by kernel_rfl) (by kernel_rfl) (fun _ _ _ h => h) hS ?_ rfl ?_
  · exact Or.inr ⟨rfl, rfl⟩
  try simp only [Act.put, List.setIfInBounds_toArray, List.set_cons_zero, List.set_cons_succ]
  refine region_take (i := 20) (oi := ⟨(some 23), (Op.pick (Operand.tmp 17) (Operand.const (Value.bool true)) (Operand.tmp 22)), 4, _, _, none⟩) (v := ?_) #[true, true, true, true, true, true, true, true, true, true, true, true, true, true, true, true, true, true, true, true, true] rfl (by kernel_rfl) (by kernel_rfl) (by kernel_rfl) (fun _ _ _ h => h) hS ?_ rfl ?_
  rotate_left
  · refine Or.inl ⟨rfl, fun W hW => ?_⟩
    dsimp only at hW
    obtain ⟨hW0, hW1, hW2, hW3⟩ := hW
    go_simp
    try rfl
  try simp only [Act.put, List.setIfInBounds_toArray, List.set_cons_zero, List.set_cons_succ]
  refine wpAnyH_done (by kernel_rfl) ?_ _
  go_wp2
  go_ret
  exact ⟨by first | rfl | (simp [*]; done) | (simp <;> omega), (by repeat (first | exact Below.refl _ _ | refine Below.drew ?_ | refine Below.alloc ?_ (by first | omega | (simp <;> omega)) _ | (refine Below.trans ?_ (Below.mono (by assumption) (by first | omega | (simp <;> omega))))))⟩
set_option maxRecDepth 100000 in
set_option maxHeartbeats 1000000 in
theorem right_hi (k ix wo li rw rf rt rk : Int) (on rd wr lk : Bool) (n : Cmd) (hn : Hid (cmdNamed ⟨k, ix, wo, li, ⟨on, rw, rf, rt, rd, wr, rk, lk⟩⟩ = n)) (w : World) (h7 : 7 < k) :
    Calls Tryz.prog 129 #[.agg #[.int .i64 k, .int .i64 ix, .int .i64 wo, .int .i64 li, .bool on, .int .i64 rw, .int .u32 rf, .int .u32 rt, .bool rd, .bool wr, .int .i64 rk, .bool lk]] w fun e w' => e = .returned (.bool (false)) ∧ Below w.heap.size w w' := by
  have hcl : (w.alloc (.cells #[.int .i64 k, .int .i64 ix, .int .i64 wo, .int .i64 li, .bool on, .int .i64 rw, .int .u32 rf, .int .u32 rt, .bool rd, .bool wr, .int .i64 rk, .bool lk] 31)).heap[w.heap.size]? = some (.cells #[.int .i64 k, .int .i64 ix, .int .i64 wo, .int .i64 li, .bool on, .int .i64 rw, .int .u32 rf, .int .u32 rt, .bool rd, .bool wr, .int .i64 rk, .bool lk] 31) := heap_alloc_new _ _
  have hc0 : (w.alloc (.cells #[.int .i64 k, .int .i64 ix, .int .i64 wo, .int .i64 li, .bool on, .int .i64 rw, .int .u32 rf, .int .u32 rt, .bool rd, .bool wr, .int .i64 rk, .bool lk] 31)).cell? ⟨w.heap.size, 0, none⟩ = some (.int .i64 k) := by simp
  have hc1 : (w.alloc (.cells #[.int .i64 k, .int .i64 ix, .int .i64 wo, .int .i64 li, .bool on, .int .i64 rw, .int .u32 rf, .int .u32 rt, .bool rd, .bool wr, .int .i64 rk, .bool lk] 31)).cell? ⟨w.heap.size, 1, none⟩ = some (.int .i64 ix) := by simp
  have hn0 : decide (k < 1) = false := by simp; omega
  have hn7 : decide (7 < k) = true := by simp; omega
  clear h7
  go_enter Tryz.func129, Tryz.ntmps129
  go_wp2_with fail
  refine region_start (S := (fun W => W.cell? ⟨w.heap.size, 0, none⟩ = some (.int .i64 k) ∧ W.cell? ⟨w.heap.size, 1, none⟩ = some (.int .i64 ix) ∧ IsRow W w.heap.size 12 ∧ rowOf W w.heap.size = #[.int .i64 k, .int .i64 ix, .int .i64 wo, .int .i64 li, .bool on, .int .i64 rw, .int .u32 rf, .int .u32 rt, .bool rd, .bool wr, .int .i64 rk, .bool lk])) 21 rfl #[false, false, false, false, false, false, false, false, false, false, false, false, false, false, false, false, false, false, false, false, false] rfl (by kernel_rfl) ?_
  refine region_s ?_ ?_
  · exact keep129 hcl rfl (by repeat (first | exact Below.refl _ _ | refine Below.drew ?_ | refine Below.alloc ?_ (by first | omega | (simp <;> omega)) _ | (refine Below.trans ?_ (Below.mono (by assumption) (by first | omega | (simp <;> omega)))))) rfl rfl
  intro hS
  refine region_take (i := 0) (oi := ⟨(some 3), (Op.fieldAddr 31 (Operand.tmp 1) 0), 0, _, _, none⟩) (v := ?_) #[true, false, false, false, false, false, false, false, false, false, false, false, false, false, false, false, false, false, false, false, false] rfl (by kernel_rfl) (by kernel_rfl) (by kernel_rfl) (fun _ _ _ h => h) hS ?_ rfl ?_
  rotate_left
  · refine Or.inl ⟨rfl, fun W hW => ?_⟩
    dsimp only at hW
    obtain ⟨hW0, hW1, hW2, hW3⟩ := hW
    go_simp
    try rfl
  try simp only [Act.put, List.setIfInBounds_toArray, List.set_cons_zero, List.set_cons_succ]
  refine region_take (i := 1) (oi := ⟨(some 4), (Op.load 25 (Operand.tmp 3)), 25, _, _, none⟩) (v := ?_) #[true, true, false, false, false, false, false, false, false, false, false, false, false, false, false, false, false, false, false, false, false] rfl (by kernel_rfl) (by kernel_rfl) (by kernel_rfl) (fun _ _ _ h => h) hS ?_ rfl ?_
  rotate_left
  · refine Or.inl ⟨rfl, fun W hW => ?_⟩
    dsimp only at hW
    obtain ⟨hW0, hW1, hW2, hW3⟩ := hW
    go_simp
    try rfl
  try simp only [Act.put, List.setIfInBounds_toArray, List.set_cons_zero, List.set_cons_succ]
  refine region_take (i := 2) (oi := ⟨(some 5), (Op.binOp BinOp.lss 25 (Operand.tmp 4) (Operand.const (Value.int IntKind.i64 1)) 25), 4, _, _, none⟩) (v := ?_) #[true, true, true, false, false, false, false, false, false, false, false, false, false, false, false, false, false, false, false, false, false] rfl (by kernel_rfl) (by kernel_rfl) (by kernel_rfl) (fun _ _ _ h => h) hS ?_ rfl ?_
  rotate_left
  · refine Or.inl ⟨rfl, fun W hW => ?_⟩
    dsimp only at hW
    obtain ⟨hW0, hW1, hW2, hW3⟩ := hW
    go_simp
    try rfl
  try simp only [Act.put, List.setIfInBounds_toArray, List.set_cons_zero, List.set_cons_succ]
  refine region_take (i := 3) (oi := ⟨(some 6), (Op.move (Operand.tmp 5)), 4, _, _, none⟩) (v := ?_) #[true, true, true, true, false, false, false, false, false, false, false, false, false, false, false, false, false, false, false, false, false] rfl (by kernel_rfl) (by kernel_rfl) (by kernel_rfl) (fun _ _ _ h => h) hS ?_ rfl ?_
  rotate_left
  · refine Or.inl ⟨rfl, fun W hW => ?_⟩
    dsimp only at hW
    obtain ⟨hW0, hW1, hW2, hW3⟩ := hW
    go_simp
    try rfl
  try simp only [Act.put, List.setIfInBounds_toArray, List.set_cons_zero, List.set_cons_succ]
  refine region_take (i := 4) (oi := ⟨(some 7), (Op.fieldAddr 31 (Operand.tmp 1) 0), 0, _, _, (some (3, false))⟩) (v := ?_) #[true, true, true, true, true, false, false, false, false, false, false, false, false, false, false, false, false, false, false, false, false] rfl (by kernel_rfl) (by kernel_rfl) (by kernel_rfl) (fun _ _ _ h => h) hS ?_ rfl ?_
  rotate_left
  · refine Or.inl ⟨rfl, fun W hW => ?_⟩
    dsimp only at hW
    obtain ⟨hW0, hW1, hW2, hW3⟩ := hW
    go_simp
    try rfl
  try simp only [Act.put, List.setIfInBounds_toArray, List.set_cons_zero, List.set_cons_succ]
  refine region_take (i := 5) (oi := ⟨(some 8), (Op.load 25 (Operand.tmp 7)), 25, _, _, (some (3, false))⟩) (v := ?_) #[true, true, true, true, true, true, false, false, false, false, false, false, false, false, false, false, false, false, false, false, false] rfl (by kernel_rfl) (by kernel_rfl) (by kernel_rfl) (fun _ _ _ h => h) hS ?_ rfl ?_
  rotate_left
  · refine Or.inl ⟨rfl, fun W hW => ?_⟩
    dsimp only at hW
    obtain ⟨hW0, hW1, hW2, hW3⟩ := hW
    go_simp
    try rfl
  try simp only [Act.put, List.setIfInBounds_toArray, List.set_cons_zero, List.set_cons_succ]
  refine region_take (i := 6) (oi := ⟨(some 9), (Op.binOp BinOp.gtr 25 (Operand.tmp 8) (Operand.const (Value.int IntKind.i64 7)) 25), 4, _, _, (some (3, false))⟩) (v := ?_) #[true, true, true, true, true, true, true, false, false, false, false, false, false, false, false, false, false, false, false, false, false] rfl (by kernel_rfl) (by kernel_rfl) (by kernel_rfl) (fun _ _ _ h => h) hS ?_ rfl ?_
  rotate_left
  · refine Or.inl ⟨rfl, fun W hW => ?_⟩
    dsimp only at hW
    obtain ⟨hW0, hW1, hW2, hW3⟩ := hW
    go_simp
    try rfl
  try simp only [Act.put, List.setIfInBounds_toArray, List.set_cons_zero, List.set_cons_succ]
  refine region_take (i := 7) (oi := ⟨(some 10), (Op.pick (Operand.tmp 6) (Operand.const (Value.bool true)) (Operand.tmp 9)), 4, _, _, none⟩) (v := ?_) #[true, true, true, true, true, true, true, true, false, false, false, false, false, false, false, false, false, false, false, false, false] rfl (by kernel_rfl) (by kernel_rfl) (by kernel_rfl) (fun _ _ _ h => h) hS ?_ rfl ?_
  rotate_left
  · refine Or.inl ⟨rfl, fun W hW => ?_⟩
    dsimp only at hW
    obtain ⟨hW0, hW1, hW2, hW3⟩ := hW
    go_simp
    try rfl
  try simp only [Act.put, List.setIfInBounds_toArray, List.set_cons_zero, List.set_cons_succ]
  refine region_take (i := 8) (oi := ⟨(some 11), (Op.move (Operand.tmp 10)), 4, _, _, none⟩) (v := ?_) #[true, true, true, true, true, true, true, true, true, false, false, false, false, false, false, false, false, false, false, false, false] rfl (by kernel_rfl) (by kernel_rfl) (by kernel_rfl) (fun _ _ _ h => h) hS ?_ rfl ?_
  rotate_left
  · refine Or.inl ⟨rfl, fun W hW => ?_⟩
    dsimp only at hW
    obtain ⟨hW0, hW1, hW2, hW3⟩ := hW
    go_simp
    try rfl
  try simp only [Act.put, List.setIfInBounds_toArray, List.set_cons_zero, List.set_cons_succ]
  refine region_take (i := 9) (oi := ⟨(some 12), (Op.load 31 (Operand.tmp 1)), 31, _, _, (some (8, false))⟩) (v := undef) #[true, true, true, true, true, true, true, true, true, true, false, false, false, false, false, false, false, false, false, false, false] rfl (by kernel_rfl) (by kernel_rfl) (by kernel_rfl) (fun _ _ _ h => h) hS ?_ rfl ?_
  · exact Or.inr ⟨rfl, rfl⟩
  try simp only [Act.put, List.setIfInBounds_toArray, List.set_cons_zero, List.set_cons_succ]
  refine region_take (i := 10) (oi := ⟨(some 13), (Op.load 31 (Operand.tmp 1)), 31, _, _, (some (8, false))⟩) (v := undef) #[true, true, true, true, true, true, true, true, true, true, true, false, false, false, false, false, false, false, false, false, false] rfl (by kernel_rfl) (by kernel_rfl) (by kernel_rfl) (fun _ _ _ h => h) hS ?_ rfl ?_
  · exact Or.inr ⟨rfl, rfl⟩
  try simp only [Act.put, List.setIfInBounds_toArray, List.set_cons_zero, List.set_cons_succ]
  refine region_take (i := 11) (oi := ⟨(some 14), (Op.call { callee := (Callee.value (Operand.func 215)), args := #[(Operand.tmp 13)], argTypes := #[31] }), 31, _, _, (some (8, false))⟩) (v := undef) #[true, true, true, true, true, true, true, true, true, true, true, true, false, false, false, false, false, false, false, false, false] rfl (by kernel_rfl) (by kernel_rfl) (by kernel_rfl) (fun _ _ _ h => h) hS ?_ rfl ?_
  · exact Or.inr ⟨rfl, rfl⟩
  try simp only [Act.put, List.setIfInBounds_toArray, List.set_cons_zero, List.set_cons_succ]
  refine region_take (i := 12) (oi := ⟨(some 15), (Op.binOp BinOp.neq 31 (Operand.tmp 12) (Operand.tmp 14) 31), 4, _, _, (some (8, false))⟩) (v := undef) #[true, true, true, true, true, true, true, true, true, true, true, true, true, false, false, false, false, false, false, false, false] rfl (by kernel_rfl) (by kernel_rfl) (by kernel_rfl) (fun _ _ _ h => h) hS ?_ rfl ?_
  · exact Or.inr ⟨rfl, rfl⟩
  try simp only [Act.put, List.setIfInBounds_toArray, List.set_cons_zero, List.set_cons_succ]
  refine region_take (i := 13) (oi := ⟨(some 16), (Op.pick (Operand.tmp 11) (Operand.const (Value.bool true)) (Operand.tmp 15)), 4, _, _, none⟩) (v := ?_) #[true, true, true, true, true, true, true, true, true, true, true, true, true, true, false, false, false, false, false, false, false] rfl (by kernel_rfl) (by kernel_rfl) (by kernel_rfl) (fun _ _ _ h => h) hS ?_ rfl ?_
  rotate_left
  · refine Or.inl ⟨rfl, fun W hW => ?_⟩
    dsimp only at hW
    obtain ⟨hW0, hW1, hW2, hW3⟩ := hW
    go_simp
    try rfl
  try simp only [Act.put, List.setIfInBounds_toArray, List.set_cons_zero, List.set_cons_succ]
  refine region_take (i := 14) (oi := ⟨(some 17), (Op.move (Operand.tmp 16)), 4, _, _, none⟩) (v := ?_) #[true, true, true, true, true, true, true, true, true, true, true, true, true, true, true, false, false, false, false, false, false] rfl (by kernel_rfl) (by kernel_rfl) (by kernel_rfl) (fun _ _ _ h => h) hS ?_ rfl ?_
  rotate_left
  · refine Or.inl ⟨rfl, fun W hW => ?_⟩
    dsimp only at hW
    obtain ⟨hW0, hW1, hW2, hW3⟩ := hW
    go_simp
    try rfl
  try simp only [Act.put, List.setIfInBounds_toArray, List.set_cons_zero, List.set_cons_succ]
  refine region_take (i := 15) (oi := ⟨(some 18), (Op.fieldAddr 31 (Operand.tmp 1) 1), 0, _, _, (some (14, false))⟩) (v := undef) #[true, true, true, true, true, true, true, true, true, true, true, true, true, true, true, true, false, false, false, false, false] rfl (by kernel_rfl) (by kernel_rfl) (by kernel_rfl) (fun _ _ _ h => h) hS ?_ rfl ?_
  · exact Or.inr ⟨rfl, rfl⟩
  try simp only [Act.put, List.setIfInBounds_toArray, List.set_cons_zero, List.set_cons_succ]
  refine region_take (i := 16) (oi := ⟨(some 19), (Op.load 3 (Operand.tmp 18)), 3, _, _, (some (14, false))⟩) (v := undef) #[true, true, true, true, true, true, true, true, true, true, true, true, true, true, true, true, true, false, false, false, false] rfl (by kernel_rfl) (by kernel_rfl) (by kernel_rfl) (fun _ _ _ h => h) hS ?_ rfl ?_
  · exact Or.inr ⟨rfl, rfl⟩
  try simp only [Act.put, List.setIfInBounds_toArray, List.set_cons_zero, List.set_cons_succ]
  refine region_take (i := 17) (oi := ⟨(some 20), (Op.buildSlice 42 1 #[(0, (Operand.tmp 19))]), 42, _, _, (some (14, false))⟩) (v := undef) #[true, true, true, true, true, true, true, true, true, true, true, true, true, true, true, true, true, true, false, false, false] rfl (by kernel_rfl) (by kernel_rfl) (by kernel_rfl) (fun _ _ _ h => h) hS ?_ rfl ?_
  · exact Or.inr ⟨rfl, rfl⟩
  try simp only [Act.put, List.setIfInBounds_toArray, List.set_cons_zero, List.set_cons_succ]
  refine region_take (i := 18) (oi := ⟨(some 21), (Op.call { callee := (Callee.value (Operand.func 216)), args := #[(Operand.const (Value.int IntKind.i64 999)), (Operand.tmp 20)], argTypes := #[3, 42] }), 4, _, _, (some (14, false))⟩) (v := undef) #[true, true, true, true, true, true, true, true, true, true, true, true, true, true, true, true, true, true, true, false, false] rfl (by kernel_rfl) (by kernel_rfl) (by kernel_rfl) (fun _ _ _ h => h) hS ?_ rfl ?_
  · exact Or.inr ⟨rfl, rfl⟩
  try simp only [Act.put, List.setIfInBounds_toArray, List.set_cons_zero, List.set_cons_succ]
  refine region_take (i := 19) (oi := ⟨(some 22), (Op.unOp UnOp.not 4 (Operand.tmp 21)), 4, _, _, (some (14, false))⟩) (v := undef) #[true, true, true, true, true, true, true, true, true, true, true, true, true, true, true, true, true, true, true, true, false] rfl (by kernel_rfl) (by kernel_rfl) (by kernel_rfl) (fun _ _ _ h => h) hS ?_ rfl ?_
  · exact Or.inr ⟨rfl, rfl⟩
  try simp only [Act.put, List.setIfInBounds_toArray, List.set_cons_zero, List.set_cons_succ]
  refine region_take (i := 20) (oi := ⟨(some 23), (Op.pick (Operand.tmp 17) (Operand.const (Value.bool true)) (Operand.tmp 22)), 4, _, _, none⟩) (v := ?_) #[true, true, true, true, true, true, true, true, true, true, true, true, true, true, true, true, true, true, true, true, true] rfl (by kernel_rfl) (by kernel_rfl) (by kernel_rfl) (fun _ _ _ h => h) hS ?_ rfl ?_
  rotate_left
  · refine Or.inl ⟨rfl, fun W hW => ?_⟩
    dsimp only at hW
    obtain ⟨hW0, hW1, hW2, hW3⟩ := hW
    go_simp
    try rfl
  try simp only [Act.put, List.setIfInBounds_toArray, List.set_cons_zero, List.set_cons_succ]
  refine wpAnyH_done (by kernel_rfl) ?_ _
  go_wp2
  go_ret
  exact ⟨by first | rfl | (simp [*]; done) | (simp <;> omega), (by repeat (first | exact Below.refl _ _ | refine Below.drew ?_ | refine Below.alloc ?_ (by first | omega | (simp <;> omega)) _ | (refine Below.trans ?_ (Below.mono (by assumption) (by first | omega | (simp <;> omega))))))⟩
set_option maxRecDepth 100000 in
set_option maxHeartbeats 1000000 in
theorem right_bad (k ix wo li rw rf rt rk : Int) (on rd wr lk : Bool) (n : Cmd) (hn : Hid (cmdNamed ⟨k, ix, wo, li, ⟨on, rw, rf, rt, rd, wr, rk, lk⟩⟩ = n)) (w : World) (h0 : 1 ≤ k) (h7 : k ≤ 7) (hne : eqCmd ⟨k, ix, wo, li, ⟨on, rw, rf, rt, rd, wr, rk, lk⟩⟩ ⟨n.k, n.ix, n.wo, n.li, ⟨n.reg.on, n.reg.rw, n.reg.rf, n.reg.rt, n.reg.rd, n.reg.wr, n.reg.rk, n.reg.lk⟩⟩ = false) :
    Calls Tryz.prog 129 #[.agg #[.int .i64 k, .int .i64 ix, .int .i64 wo, .int .i64 li, .bool on, .int .i64 rw, .int .u32 rf, .int .u32 rt, .bool rd, .bool wr, .int .i64 rk, .bool lk]] w fun e w' => e = .returned (.bool (false)) ∧ Below w.heap.size w w' := by
  have hcl : (w.alloc (.cells #[.int .i64 k, .int .i64 ix, .int .i64 wo, .int .i64 li, .bool on, .int .i64 rw, .int .u32 rf, .int .u32 rt, .bool rd, .bool wr, .int .i64 rk, .bool lk] 31)).heap[w.heap.size]? = some (.cells #[.int .i64 k, .int .i64 ix, .int .i64 wo, .int .i64 li, .bool on, .int .i64 rw, .int .u32 rf, .int .u32 rt, .bool rd, .bool wr, .int .i64 rk, .bool lk] 31) := heap_alloc_new _ _
  have hc0 : (w.alloc (.cells #[.int .i64 k, .int .i64 ix, .int .i64 wo, .int .i64 li, .bool on, .int .i64 rw, .int .u32 rf, .int .u32 rt, .bool rd, .bool wr, .int .i64 rk, .bool lk] 31)).cell? ⟨w.heap.size, 0, none⟩ = some (.int .i64 k) := by simp
  have hc1 : (w.alloc (.cells #[.int .i64 k, .int .i64 ix, .int .i64 wo, .int .i64 li, .bool on, .int .i64 rw, .int .u32 rf, .int .u32 rt, .bool rd, .bool wr, .int .i64 rk, .bool lk] 31)).cell? ⟨w.heap.size, 1, none⟩ = some (.int .i64 ix) := by simp
  have hn0 : decide (k < 1) = false := by simp; omega
  have hn7 : decide (7 < k) = false := by simp; omega
  clear h0 h7
  go_enter Tryz.func129, Tryz.ntmps129
  go_wp2_with fail
  refine region_start (S := (fun W => W.cell? ⟨w.heap.size, 0, none⟩ = some (.int .i64 k) ∧ W.cell? ⟨w.heap.size, 1, none⟩ = some (.int .i64 ix) ∧ IsRow W w.heap.size 12 ∧ rowOf W w.heap.size = #[.int .i64 k, .int .i64 ix, .int .i64 wo, .int .i64 li, .bool on, .int .i64 rw, .int .u32 rf, .int .u32 rt, .bool rd, .bool wr, .int .i64 rk, .bool lk])) 21 rfl #[false, false, false, false, false, false, false, false, false, false, false, false, false, false, false, false, false, false, false, false, false] rfl (by kernel_rfl) ?_
  refine region_s ?_ ?_
  · exact keep129 hcl rfl (by repeat (first | exact Below.refl _ _ | refine Below.drew ?_ | refine Below.alloc ?_ (by first | omega | (simp <;> omega)) _ | (refine Below.trans ?_ (Below.mono (by assumption) (by first | omega | (simp <;> omega)))))) rfl rfl
  intro hS
  refine region_take (i := 0) (oi := ⟨(some 3), (Op.fieldAddr 31 (Operand.tmp 1) 0), 0, _, _, none⟩) (v := ?_) #[true, false, false, false, false, false, false, false, false, false, false, false, false, false, false, false, false, false, false, false, false] rfl (by kernel_rfl) (by kernel_rfl) (by kernel_rfl) (fun _ _ _ h => h) hS ?_ rfl ?_
  rotate_left
  · refine Or.inl ⟨rfl, fun W hW => ?_⟩
    dsimp only at hW
    obtain ⟨hW0, hW1, hW2, hW3⟩ := hW
    go_simp
    try rfl
  try simp only [Act.put, List.setIfInBounds_toArray, List.set_cons_zero, List.set_cons_succ]
  refine region_take (i := 1) (oi := ⟨(some 4), (Op.load 25 (Operand.tmp 3)), 25, _, _, none⟩) (v := ?_) #[true, true, false, false, false, false, false, false, false, false, false, false, false, false, false, false, false, false, false, false, false] rfl (by kernel_rfl) (by kernel_rfl) (by kernel_rfl) (fun _ _ _ h => h) hS ?_ rfl ?_
  rotate_left
  · refine Or.inl ⟨rfl, fun W hW => ?_⟩
    dsimp only at hW
    obtain ⟨hW0, hW1, hW2, hW3⟩ := hW
    go_simp
    try rfl
  try simp only [Act.put, List.setIfInBounds_toArray, List.set_cons_zero, List.set_cons_succ]
  refine region_take (i := 2) (oi := ⟨(some 5), (Op.binOp BinOp.lss 25 (Operand.tmp 4) (Operand.const (Value.int IntKind.i64 1)) 25), 4, _, _, none⟩) (v := ?_) #[true, true, true, false, false, false, false, false, false, false, false, false, false, false, false, false, false, false, false, false, false] rfl (by kernel_rfl) (by kernel_rfl) (by kernel_rfl) (fun _ _ _ h => h) hS ?_ rfl ?_
  rotate_left
  · refine Or.inl ⟨rfl, fun W hW => ?_⟩
    dsimp only at hW
    obtain ⟨hW0, hW1, hW2, hW3⟩ := hW
    go_simp
    try rfl
  try simp only [Act.put, List.setIfInBounds_toArray, List.set_cons_zero, List.set_cons_succ]
  refine region_take (i := 3) (oi := ⟨(some 6), (Op.move (Operand.tmp 5)), 4, _, _, none⟩) (v := ?_) #[true, true, true, true, false, false, false, false, false, false, false, false, false, false, false, false, false, false, false, false, false] rfl (by kernel_rfl) (by kernel_rfl) (by kernel_rfl) (fun _ _ _ h => h) hS ?_ rfl ?_
  rotate_left
  · refine Or.inl ⟨rfl, fun W hW => ?_⟩
    dsimp only at hW
    obtain ⟨hW0, hW1, hW2, hW3⟩ := hW
    go_simp
    try rfl
  try simp only [Act.put, List.setIfInBounds_toArray, List.set_cons_zero, List.set_cons_succ]
  refine region_take (i := 4) (oi := ⟨(some 7), (Op.fieldAddr 31 (Operand.tmp 1) 0), 0, _, _, (some (3, false))⟩) (v := ?_) #[true, true, true, true, true, false, false, false, false, false, false, false, false, false, false, false, false, false, false, false, false] rfl (by kernel_rfl) (by kernel_rfl) (by kernel_rfl) (fun _ _ _ h => h) hS ?_ rfl ?_
  rotate_left
  · refine Or.inl ⟨rfl, fun W hW => ?_⟩
    dsimp only at hW
    obtain ⟨hW0, hW1, hW2, hW3⟩ := hW
    go_simp
    try rfl
  try simp only [Act.put, List.setIfInBounds_toArray, List.set_cons_zero, List.set_cons_succ]
  refine region_take (i := 5) (oi := ⟨(some 8), (Op.load 25 (Operand.tmp 7)), 25, _, _, (some (3, false))⟩) (v := ?_) #[true, true, true, true, true, true, false, false, false, false, false, false, false, false, false, false, false, false, false, false, false] rfl (by kernel_rfl) (by kernel_rfl) (by kernel_rfl) (fun _ _ _ h => h) hS ?_ rfl ?_
  rotate_left
  · refine Or.inl ⟨rfl, fun W hW => ?_⟩
    dsimp only at hW
    obtain ⟨hW0, hW1, hW2, hW3⟩ := hW
    go_simp
    try rfl
  try simp only [Act.put, List.setIfInBounds_toArray, List.set_cons_zero, List.set_cons_succ]
  refine region_take (i := 6) (oi := ⟨(some 9), (Op.binOp BinOp.gtr 25 (Operand.tmp 8) (Operand.const (Value.int IntKind.i64 7)) 25), 4, _, _, (some (3, false))⟩) (v := ?_) #[true, true, true, true, true, true, true, false, false, false, false, false, false, false, false, false, false, false, false, false, false] rfl (by kernel_rfl) (by kernel_rfl) (by kernel_rfl) (fun _ _ _ h => h) hS ?_ rfl ?_
  rotate_left
  · refine Or.inl ⟨rfl, fun W hW => ?_⟩
    dsimp only at hW
    obtain ⟨hW0, hW1, hW2, hW3⟩ := hW
    go_simp
    try rfl
  try simp only [Act.put, List.setIfInBounds_toArray, List.set_cons_zero, List.set_cons_succ]
  refine region_take (i := 7) (oi := ⟨(some 10), (Op.pick (Operand.tmp 6) (Operand.const (Value.bool true)) (Operand.tmp 9)), 4, _, _, none⟩) (v := ?_) #[true, true, true, true, true, true, true, true, false, false, false, false, false, false, false, false, false, false, false, false, false] rfl (by kernel_rfl) (by kernel_rfl) (by kernel_rfl) (fun _ _ _ h => h) hS ?_ rfl ?_
  rotate_left
  · refine Or.inl ⟨rfl, fun W hW => ?_⟩
    dsimp only at hW
    obtain ⟨hW0, hW1, hW2, hW3⟩ := hW
    go_simp
    try rfl
  try simp only [Act.put, List.setIfInBounds_toArray, List.set_cons_zero, List.set_cons_succ]
  refine region_take (i := 8) (oi := ⟨(some 11), (Op.move (Operand.tmp 10)), 4, _, _, none⟩) (v := ?_) #[true, true, true, true, true, true, true, true, true, false, false, false, false, false, false, false, false, false, false, false, false] rfl (by kernel_rfl) (by kernel_rfl) (by kernel_rfl) (fun _ _ _ h => h) hS ?_ rfl ?_
  rotate_left
  · refine Or.inl ⟨rfl, fun W hW => ?_⟩
    dsimp only at hW
    obtain ⟨hW0, hW1, hW2, hW3⟩ := hW
    go_simp
    try rfl
  try simp only [Act.put, List.setIfInBounds_toArray, List.set_cons_zero, List.set_cons_succ]
  refine region_take (i := 9) (oi := ⟨(some 12), (Op.load 31 (Operand.tmp 1)), 31, _, _, (some (8, false))⟩) (v := ?_) #[true, true, true, true, true, true, true, true, true, true, false, false, false, false, false, false, false, false, false, false, false] rfl (by kernel_rfl) (by kernel_rfl) (by kernel_rfl) (fun _ _ _ h => h) hS ?_ rfl ?_
  rotate_left
  · refine Or.inl ⟨rfl, fun W hW => ?_⟩
    dsimp only at hW
    obtain ⟨hW0, hW1, hW2, hW3⟩ := hW
    go_simp
    try rfl
  try simp only [Act.put, List.setIfInBounds_toArray, List.set_cons_zero, List.set_cons_succ]
  refine region_take (i := 10) (oi := ⟨(some 13), (Op.load 31 (Operand.tmp 1)), 31, _, _, (some (8, false))⟩) (v := ?_) #[true, true, true, true, true, true, true, true, true, true, true, false, false, false, false, false, false, false, false, false, false] rfl (by kernel_rfl) (by kernel_rfl) (by kernel_rfl) (fun _ _ _ h => h) hS ?_ rfl ?_
  rotate_left
  · refine Or.inl ⟨rfl, fun W hW => ?_⟩
    dsimp only at hW
    obtain ⟨hW0, hW1, hW2, hW3⟩ := hW
    go_simp
    try rfl
  try simp only [Act.put, List.setIfInBounds_toArray, List.set_cons_zero, List.set_cons_succ]
  refine region_op (i := 11) (oi := ⟨(some 14), (Op.call { callee := (Callee.value (Operand.func 215)), args := #[(Operand.tmp 13)], argTypes := #[31] }), 31, _, _, (some (8, false))⟩) #[true, true, true, true, true, true, true, true, true, true, true, true, false, false, false, false, false, false, false, false, false] rfl (by kernel_rfl) rfl rfl ?_
  intro K hK
  go_simp; refine (named_as _ _ _ _ _ _ _ _ _ _ _ _ n hn _).mono ?_; rintro e w1 ⟨rfl, hb⟩; have hz := hb.size; simp at hz
  refine hK _ _ ⟨?_, fun hS => ?_⟩
  · exact keep129 hcl rfl (by repeat (first | exact Below.refl _ _ | refine Below.drew ?_ | refine Below.alloc ?_ (by first | omega | (simp <;> omega)) _ | (refine Below.trans ?_ (Below.mono (by assumption) (by first | omega | (simp <;> omega)))))) rfl rfl
  try simp only [Act.put, List.setIfInBounds_toArray, List.set_cons_zero, List.set_cons_succ]
  refine region_take (i := 12) (oi := ⟨(some 15), (Op.binOp BinOp.neq 31 (Operand.tmp 12) (Operand.tmp 14) 31), 4, _, _, (some (8, false))⟩) (v := ?_) #[true, true, true, true, true, true, true, true, true, true, true, true, true, false, false, false, false, false, false, false, false] rfl (by kernel_rfl) (by kernel_rfl) (by kernel_rfl) (fun _ _ _ h => h) hS ?_ rfl ?_
  rotate_left
  · refine Or.inl ⟨rfl, fun W hW => ?_⟩
    dsimp only at hW
    obtain ⟨hW0, hW1, hW2, hW3⟩ := hW
    go_simp
    try rfl
  try simp only [Act.put, List.setIfInBounds_toArray, List.set_cons_zero, List.set_cons_succ]
  refine region_take (i := 13) (oi := ⟨(some 16), (Op.pick (Operand.tmp 11) (Operand.const (Value.bool true)) (Operand.tmp 15)), 4, _, _, none⟩) (v := ?_) #[true, true, true, true, true, true, true, true, true, true, true, true, true, true, false, false, false, false, false, false, false] rfl (by kernel_rfl) (by kernel_rfl) (by kernel_rfl) (fun _ _ _ h => h) hS ?_ rfl ?_
  rotate_left
  · refine Or.inl ⟨rfl, fun W hW => ?_⟩
    dsimp only at hW
    obtain ⟨hW0, hW1, hW2, hW3⟩ := hW
    go_simp
    try rfl
  try simp only [Act.put, List.setIfInBounds_toArray, List.set_cons_zero, List.set_cons_succ]
  refine region_take (i := 14) (oi := ⟨(some 17), (Op.move (Operand.tmp 16)), 4, _, _, none⟩) (v := ?_) #[true, true, true, true, true, true, true, true, true, true, true, true, true, true, true, false, false, false, false, false, false] rfl (by kernel_rfl) (by kernel_rfl) (by kernel_rfl) (fun _ _ _ h => h) hS ?_ rfl ?_
  rotate_left
  · refine Or.inl ⟨rfl, fun W hW => ?_⟩
    dsimp only at hW
    obtain ⟨hW0, hW1, hW2, hW3⟩ := hW
    go_simp
    try rfl
  try simp only [Act.put, List.setIfInBounds_toArray, List.set_cons_zero, List.set_cons_succ]
  refine region_take (i := 15) (oi := ⟨(some 18), (Op.fieldAddr 31 (Operand.tmp 1) 1), 0, _, _, (some (14, false))⟩) (v := undef) #[true, true, true, true, true, true, true, true, true, true, true, true, true, true, true, true, false, false, false, false, false] rfl (by kernel_rfl) (by kernel_rfl) (by kernel_rfl) (fun _ _ _ h => h) hS ?_ rfl ?_
  · exact Or.inr ⟨rfl, rfl⟩
  try simp only [Act.put, List.setIfInBounds_toArray, List.set_cons_zero, List.set_cons_succ]
  refine region_take (i := 16) (oi := ⟨(some 19), (Op.load 3 (Operand.tmp 18)), 3, _, _, (some (14, false))⟩) (v := undef) #[true, true, true, true, true, true, true, true, true, true, true, true, true, true, true, true, true, false, false, false, false] rfl (by kernel_rfl) (by kernel_rfl) (by kernel_rfl) (fun _ _ _ h => h) hS ?_ rfl ?_
  · exact Or.inr ⟨rfl, rfl⟩
  try simp only [Act.put, List.setIfInBounds_toArray, List.set_cons_zero, List.set_cons_succ]
  refine region_take (i := 17) (oi := ⟨(some 20), (Op.buildSlice 42 1 #[(0, (Operand.tmp 19))]), 42, _, _, (some (14, false))⟩) (v := undef) #[true, true, true, true, true, true, true, true, true, true, true, true, true, true, true, true, true, true, false, false, false] rfl (by kernel_rfl) (by kernel_rfl) (by kernel_rfl) (fun _ _ _ h => h) hS ?_ rfl ?_
  · exact Or.inr ⟨rfl, rfl⟩
  try simp only [Act.put, List.setIfInBounds_toArray, List.set_cons_zero, List.set_cons_succ]
  refine region_take (i := 18) (oi := ⟨(some 21), (Op.call { callee := (Callee.value (Operand.func 216)), args := #[(Operand.const (Value.int IntKind.i64 999)), (Operand.tmp 20)], argTypes := #[3, 42] }), 4, _, _, (some (14, false))⟩) (v := undef) #[true, true, true, true, true, true, true, true, true, true, true, true, true, true, true, true, true, true, true, false, false] rfl (by kernel_rfl) (by kernel_rfl) (by kernel_rfl) (fun _ _ _ h => h) hS ?_ rfl ?_
  · exact Or.inr ⟨rfl, rfl⟩
  try simp only [Act.put, List.setIfInBounds_toArray, List.set_cons_zero, List.set_cons_succ]
  refine region_take (i := 19) (oi := ⟨(some 22), (Op.unOp UnOp.not 4 (Operand.tmp 21)), 4, _, _, (some (14, false))⟩) (v := undef) #[true, true, true, true, true, true, true, true, true, true, true, true, true, true, true, true, true, true, true, true, false] rfl (by kernel_rfl) (by kernel_rfl) (by kernel_rfl) (fun _ _ _ h => h) hS ?_ rfl ?_
  · exact Or.inr ⟨rfl, rfl⟩
  try simp only [Act.put, List.setIfInBounds_toArray, List.set_cons_zero, List.set_cons_succ]
  refine region_take (i := 20) (oi := ⟨(some 23), (Op.pick (Operand.tmp 17) (Operand.const (Value.bool true)) (Operand.tmp 22)), 4, _, _, none⟩) (v := ?_) #[true, true, true, true, true, true, true, true, true, true, true, true, true, true, true, true, true, true, true, true, true] rfl (by kernel_rfl) (by kernel_rfl) (by kernel_rfl) (fun _ _ _ h => h) hS ?_ rfl ?_
  rotate_left
  · refine Or.inl ⟨rfl, fun W hW => ?_⟩
    dsimp only at hW
    obtain ⟨hW0, hW1, hW2, hW3⟩ := hW
    go_simp
    try rfl
  try simp only [Act.put, List.setIfInBounds_toArray, List.set_cons_zero, List.set_cons_succ]
  refine wpAnyH_done (by kernel_rfl) ?_ _
  go_wp2
  go_ret
  exact ⟨by first | rfl | (simp [*]; done) | (simp <;> omega), (by repeat (first | exact Below.refl _ _ | refine Below.drew ?_ | refine Below.alloc ?_ (by first | omega | (simp <;> omega)) _ | (refine Below.trans ?_ (Below.mono (by assumption) (by first | omega | (simp <;> omega))))))⟩
set_option maxRecDepth 100000 in
set_option maxHeartbeats 1000000 in
theorem right_ix (k ix wo li rw rf rt rk : Int) (on rd wr lk : Bool) (n : Cmd) (hn : Hid (cmdNamed ⟨k, ix, wo, li, ⟨on, rw, rf, rt, rd, wr, rk, lk⟩⟩ = n)) (w : World) (h0 : 1 ≤ k) (h7 : k ≤ 7) (hix : inB 999 ix = false) (hne : eqCmd ⟨k, ix, wo, li, ⟨on, rw, rf, rt, rd, wr, rk, lk⟩⟩ ⟨n.k, n.ix, n.wo, n.li, ⟨n.reg.on, n.reg.rw, n.reg.rf, n.reg.rt, n.reg.rd, n.reg.wr, n.reg.rk, n.reg.lk⟩⟩ = true) :
    Calls Tryz.prog 129 #[.agg #[.int .i64 k, .int .i64 ix, .int .i64 wo, .int .i64 li, .bool on, .int .i64 rw, .int .u32 rf, .int .u32 rt, .bool rd, .bool wr, .int .i64 rk, .bool lk]] w fun e w' => e = .returned (.bool (false)) ∧ Below w.heap.size w w' := by
  have hcl : (w.alloc (.cells #[.int .i64 k, .int .i64 ix, .int .i64 wo, .int .i64 li, .bool on, .int .i64 rw, .int .u32 rf, .int .u32 rt, .bool rd, .bool wr, .int .i64 rk, .bool lk] 31)).heap[w.heap.size]? = some (.cells #[.int .i64 k, .int .i64 ix, .int .i64 wo, .int .i64 li, .bool on, .int .i64 rw, .int .u32 rf, .int .u32 rt, .bool rd, .bool wr, .int .i64 rk, .bool lk] 31) := heap_alloc_new _ _
  have hc0 : (w.alloc (.cells #[.int .i64 k, .int .i64 ix, .int .i64 wo, .int .i64 li, .bool on, .int .i64 rw, .int .u32 rf, .int .u32 rt, .bool rd, .bool wr, .int .i64 rk, .bool lk] 31)).cell? ⟨w.heap.size, 0, none⟩ = some (.int .i64 k) := by simp
  have hc1 : (w.alloc (.cells #[.int .i64 k, .int .i64 ix, .int .i64 wo, .int .i64 li, .bool on, .int .i64 rw, .int .u32 rf, .int .u32 rt, .bool rd, .bool wr, .int .i64 rk, .bool lk] 31)).cell? ⟨w.heap.size, 1, none⟩ = some (.int .i64 ix) := by simp
  have hn0 : decide (k < 1) = false := by simp; omega
  have hn7 : decide (7 < k) = false := by simp; omega
  clear h0 h7
  go_enter Tryz.func129, Tryz.ntmps129
  go_wp2_with fail
  refine region_start (S := (fun W => W.cell? ⟨w.heap.size, 0, none⟩ = some (.int .i64 k) ∧ W.cell? ⟨w.heap.size, 1, none⟩ = some (.int .i64 ix) ∧ IsRow W w.heap.size 12 ∧ rowOf W w.heap.size = #[.int .i64 k, .int .i64 ix, .int .i64 wo, .int .i64 li, .bool on, .int .i64 rw, .int .u32 rf, .int .u32 rt, .bool rd, .bool wr, .int .i64 rk, .bool lk])) 21 rfl #[false, false, false, false, false, false, false, false, false, false, false, false, false, false, false, false, false, false, false, false, false] rfl (by kernel_rfl) ?_
  refine region_s ?_ ?_
  · exact keep129 hcl rfl (by repeat (first | exact Below.refl _ _ | refine Below.drew ?_ | refine Below.alloc ?_ (by first | omega | (simp <;> omega)) _ | (refine Below.trans ?_ (Below.mono (by assumption) (by first | omega | (simp <;> omega)))))) rfl rfl
  intro hS
  refine region_take (i := 0) (oi := ⟨(some 3), (Op.fieldAddr 31 (Operand.tmp 1) 0), 0, _, _, none⟩) (v := ?_) #[true, false, false, false, false, false, false, false, false, false, false, false, false, false, false, false, false, false, false, false, false] rfl (by kernel_rfl) (by kernel_rfl) (by kernel_rfl) (fun _ _ _ h => h) hS ?_ rfl ?_
  rotate_left
  · refine Or.inl ⟨rfl, fun W hW => ?_⟩
    dsimp only at hW
    obtain ⟨hW0, hW1, hW2, hW3⟩ := hW
    go_simp
    try rfl
  try simp only [Act.put, List.setIfInBounds_toArray, List.set_cons_zero, List.set_cons_succ]
  refine region_take (i := 1) (oi := ⟨(some 4), (Op.load 25 (Operand.tmp 3)), 25, _, _, none⟩) (v := ?_) #[true, true, false, false, false, false, false, false, false, false, false, false, false, false, false, false, false, false, false, false, false] rfl (by kernel_rfl) (by kernel_rfl) (by kernel_rfl) (fun _ _ _ h => h) hS ?_ rfl ?_
  rotate_left
  · refine Or.inl ⟨rfl, fun W hW => ?_⟩
    dsimp only at hW
    obtain ⟨hW0, hW1, hW2, hW3⟩ := hW
    go_simp
    try rfl
  try simp only [Act.put, List.setIfInBounds_toArray, List.set_cons_zero, List.set_cons_succ]
  refine region_take (i := 2) (oi := ⟨(some 5), (Op.binOp BinOp.lss 25 (Operand.tmp 4) (Operand.const (Value.int IntKind.i64 1)) 25), 4, _, _, none⟩) (v := ?_) #[true, true, true, false, false, false, false, false, false, false, false, false, false, false, false, false, false, false, false, false, false] rfl (by kernel_rfl) (by kernel_rfl) (by kernel_rfl) (fun _ _ _ h => h) hS ?_ rfl ?_
  rotate_left
  · refine Or.inl ⟨rfl, fun W hW => ?_⟩
    dsimp only at hW
    obtain ⟨hW0, hW1, hW2, hW3⟩ := hW
    go_simp
    try rfl
  try simp only [Act.put, List.setIfInBounds_toArray, List.set_cons_zero, List.set_cons_succ]
  refine region_take (i := 3) (oi := ⟨(some 6), (Op.move (Operand.tmp 5)), 4, _, _, none⟩) (v := ?_) #[true, true, true, true, false, false, false, false, false, false, false, false, false, false, false, false, false, false, false, false, false] rfl (by kernel_rfl) (by kernel_rfl) (by kernel_rfl) (fun _ _ _ h => h) hS ?_ rfl ?_
  rotate_left
  · refine Or.inl ⟨rfl, fun W hW => ?_⟩
    dsimp only at hW
    obtain ⟨hW0, hW1, hW2, hW3⟩ := hW
    go_simp
    try rfl
  try simp only [Act.put, List.setIfInBounds_toArray, List.set_cons_zero, List.set_cons_succ]
  refine region_take (i := 4) (oi := ⟨(some 7), (Op.fieldAddr 31 (Operand.tmp 1) 0), 0, _, _, (some (3, false))⟩) (v := ?_) #[true, true, true, true, true, false, false, false, false, false, false, false, false, false, false, false, false, false, false, false, false] rfl (by kernel_rfl) (by kernel_rfl) (by kernel_rfl) (fun _ _ _ h => h) hS ?_ rfl ?_
  rotate_left
  · refine Or.inl ⟨rfl, fun W hW => ?_⟩
    dsimp only at hW
    obtain ⟨hW0, hW1, hW2, hW3⟩ := hW
    go_simp
    try rfl
  try simp only [Act.put, List.setIfInBounds_toArray, List.set_cons_zero, List.set_cons_succ]
  refine region_take (i := 5) (oi := ⟨(some 8), (Op.load 25 (Operand.tmp 7)), 25, _, _, (some (3, false))⟩) (v := ?_) #[true, true, true, true, true, true, false, false, false, false, false, false, false, false, false, false, false, false, false, false, false] rfl (by kernel_rfl) (by kernel_rfl) (by kernel_rfl) (fun _ _ _ h => h) hS ?_ rfl ?_
  rotate_left
  · refine Or.inl ⟨rfl, fun W hW => ?_⟩
    dsimp only at hW
    obtain ⟨hW0, hW1, hW2, hW3⟩ := hW
    go_simp
    try rfl
  try simp only [Act.put, List.setIfInBounds_toArray, List.set_cons_zero, List.set_cons_succ]
  refine region_take (i := 6) (oi := ⟨(some 9), (Op.binOp BinOp.gtr 25 (Operand.tmp 8) (Operand.const (Value.int IntKind.i64 7)) 25), 4, _, _, (some (3, false))⟩) (v := ?_) #[true, true, true, true, true, true, true, false, false, false, false, false, false, false, false, false, false, false, false, false, false] rfl (by kernel_rfl) (by kernel_rfl) (by kernel_rfl) (fun _ _ _ h => h) hS ?_ rfl ?_
  rotate_left
  · refine Or.inl ⟨rfl, fun W hW => ?_⟩
    dsimp only at hW
    obtain ⟨hW0, hW1, hW2, hW3⟩ := hW
    go_simp
    try rfl
  try simp only [Act.put, List.setIfInBounds_toArray, List.set_cons_zero, List.set_cons_succ]
  refine region_take (i := 7) (oi := ⟨(some 10), (Op.pick (Operand.tmp 6) (Operand.const (Value.bool true)) (Operand.tmp 9)), 4, _, _, none⟩) (v := ?_) #[true, true, true, true, true, true, true, true, false, false, false, false, false, false, false, false, false, false, false, false, false] rfl (by kernel_rfl) (by kernel_rfl) (by kernel_rfl) (fun _ _ _ h => h) hS ?_ rfl ?_
  rotate_left
  · refine Or.inl ⟨rfl, fun W hW => ?_⟩
    dsimp only at hW
    obtain ⟨hW0, hW1, hW2, hW3⟩ := hW
    go_simp
    try rfl
  try simp only [Act.put, List.setIfInBounds_toArray, List.set_cons_zero, List.set_cons_succ]
  refine region_take (i := 8) (oi := ⟨(some 11), (Op.move (Operand.tmp 10)), 4, _, _, none⟩) (v := ?_) #[true, true, true, true, true, true, true, true, true, false, false, false, false, false, false, false, false, false, false, false, false] rfl (by kernel_rfl) (by kernel_rfl) (by kernel_rfl) (fun _ _ _ h => h) hS ?_ rfl ?_
  rotate_left
  · refine Or.inl ⟨rfl, fun W hW => ?_⟩
    dsimp only at hW
    obtain ⟨hW0, hW1, hW2, hW3⟩ := hW
    go_simp
    try rfl
  try simp only [Act.put, List.setIfInBounds_toArray, List.set_cons_zero, List.set_cons_succ]
  refine region_take (i := 9) (oi := ⟨(some 12), (Op.load 31 (Operand.tmp 1)), 31, _, _, (some (8, false))⟩) (v := ?_) #[true, true, true, true, true, true, true, true, true, true, false, false, false, false, false, false, false, false, false, false, false] rfl (by kernel_rfl) (by kernel_rfl) (by kernel_rfl) (fun _ _ _ h => h) hS ?_ rfl ?_
  rotate_left
  · refine Or.inl ⟨rfl, fun W hW => ?_⟩
    dsimp only at hW
    obtain ⟨hW0, hW1, hW2, hW3⟩ := hW
    go_simp
    try rfl
  try simp only [Act.put, List.setIfInBounds_toArray, List.set_cons_zero, List.set_cons_succ]
  refine region_take (i := 10) (oi := ⟨(some 13), (Op.load 31 (Operand.tmp 1)), 31, _, _, (some (8, false))⟩) (v := ?_) #[true, true, true, true, true, true, true, true, true, true, true, false, false, false, false, false, false, false, false, false, false] rfl (by kernel_rfl) (by kernel_rfl) (by kernel_rfl) (fun _ _ _ h => h) hS ?_ rfl ?_
  rotate_left
  · refine Or.inl ⟨rfl, fun W hW => ?_⟩
    dsimp only at hW
    obtain ⟨hW0, hW1, hW2, hW3⟩ := hW
    go_simp
    try rfl
  try simp only [Act.put, List.setIfInBounds_toArray, List.set_cons_zero, List.set_cons_succ]
  refine region_op (i := 11) (oi := ⟨(some 14), (Op.call { callee := (Callee.value (Operand.func 215)), args := #[(Operand.tmp 13)], argTypes := #[31] }), 31, _, _, (some (8, false))⟩) #[true, true, true, true, true, true, true, true, true, true, true, true, false, false, false, false, false, false, false, false, false] rfl (by kernel_rfl) rfl rfl ?_
  intro K hK
  go_simp; refine (named_as _ _ _ _ _ _ _ _ _ _ _ _ n hn _).mono ?_; rintro e w1 ⟨rfl, hb⟩; have hz := hb.size; simp at hz
  refine hK _ _ ⟨?_, fun hS => ?_⟩
  · exact keep129 hcl rfl (by repeat (first | exact Below.refl _ _ | refine Below.drew ?_ | refine Below.alloc ?_ (by first | omega | (simp <;> omega)) _ | (refine Below.trans ?_ (Below.mono (by assumption) (by first | omega | (simp <;> omega)))))) rfl rfl
  try simp only [Act.put, List.setIfInBounds_toArray, List.set_cons_zero, List.set_cons_succ]
  refine region_take (i := 12) (oi := ⟨(some 15), (Op.binOp BinOp.neq 31 (Operand.tmp 12) (Operand.tmp 14) 31), 4, _, _, (some (8, false))⟩) (v := ?_) #[true, true, true, true, true, true, true, true, true, true, true, true, true, false, false, false, false, false, false, false, false] rfl (by kernel_rfl) (by kernel_rfl) (by kernel_rfl) (fun _ _ _ h => h) hS ?_ rfl ?_
  rotate_left
  · refine Or.inl ⟨rfl, fun W hW => ?_⟩
    dsimp only at hW
    obtain ⟨hW0, hW1, hW2, hW3⟩ := hW
    go_simp
    try rfl
  try simp only [Act.put, List.setIfInBounds_toArray, List.set_cons_zero, List.set_cons_succ]
  refine region_take (i := 13) (oi := ⟨(some 16), (Op.pick (Operand.tmp 11) (Operand.const (Value.bool true)) (Operand.tmp 15)), 4, _, _, none⟩) (v := ?_) #[true, true, true, true, true, true, true, true, true, true, true, true, true, true, false, false, false, false, false, false, false] rfl (by kernel_rfl) (by kernel_rfl) (by kernel_rfl) (fun _ _ _ h => h) hS ?_ rfl ?_
  rotate_left
  · refine Or.inl ⟨rfl, fun W hW => ?_⟩
    dsimp only at hW
    obtain ⟨hW0, hW1, hW2, hW3⟩ := hW
    go_simp
    try rfl
  try simp only [Act.put, List.setIfInBounds_toArray, List.set_cons_zero, List.set_cons_succ]
  refine region_take (i := 14) (oi := ⟨(some 17), (Op.move (Operand.tmp 16)), 4, _, _, none⟩) (v := ?_) #[true, true, true, true, true, true, true, true, true, true, true, true, true, true, true, false, false, false, false, false, false] rfl (by kernel_rfl) (by kernel_rfl) (by kernel_rfl) (fun _ _ _ h => h) hS ?_ rfl ?_
  rotate_left
  · refine Or.inl ⟨rfl, fun W hW => ?_⟩
    dsimp only at hW
    obtain ⟨hW0, hW1, hW2, hW3⟩ := hW
    go_simp
    try rfl
  try simp only [Act.put, List.setIfInBounds_toArray, List.set_cons_zero, List.set_cons_succ]
  refine region_take (i := 15) (oi := ⟨(some 18), (Op.fieldAddr 31 (Operand.tmp 1) 1), 0, _, _, (some (14, false))⟩) (v := ?_) #[true, true, true, true, true, true, true, true, true, true, true, true, true, true, true, true, false, false, false, false, false] rfl (by kernel_rfl) (by kernel_rfl) (by kernel_rfl) (fun _ _ _ h => h) hS ?_ rfl ?_
  rotate_left
  · refine Or.inl ⟨rfl, fun W hW => ?_⟩
    dsimp only at hW
    obtain ⟨hW0, hW1, hW2, hW3⟩ := hW
    go_simp
    try rfl
  try simp only [Act.put, List.setIfInBounds_toArray, List.set_cons_zero, List.set_cons_succ]
  refine region_take (i := 16) (oi := ⟨(some 19), (Op.load 3 (Operand.tmp 18)), 3, _, _, (some (14, false))⟩) (v := ?_) #[true, true, true, true, true, true, true, true, true, true, true, true, true, true, true, true, true, false, false, false, false] rfl (by kernel_rfl) (by kernel_rfl) (by kernel_rfl) (fun _ _ _ h => h) hS ?_ rfl ?_
  rotate_left
  · refine Or.inl ⟨rfl, fun W hW => ?_⟩
    dsimp only at hW
    obtain ⟨hW0, hW1, hW2, hW3⟩ := hW
    go_simp
    try rfl
  try simp only [Act.put, List.setIfInBounds_toArray, List.set_cons_zero, List.set_cons_succ]
  refine region_op (i := 17) (oi := ⟨(some 20), (Op.buildSlice 42 1 #[(0, (Operand.tmp 19))]), 42, _, _, (some (14, false))⟩) #[true, true, true, true, true, true, true, true, true, true, true, true, true, true, true, true, true, true, false, false, false] rfl (by kernel_rfl) rfl rfl ?_
  intro K hK
  go_simp
  refine hK _ _ ⟨?_, fun hS => ?_⟩
  · exact keep129 hcl rfl (by repeat (first | exact Below.refl _ _ | refine Below.drew ?_ | refine Below.alloc ?_ (by first | omega | (simp <;> omega)) _ | (refine Below.trans ?_ (Below.mono (by assumption) (by first | omega | (simp <;> omega)))))) rfl rfl
  try simp only [Act.put, List.setIfInBounds_toArray, List.set_cons_zero, List.set_cons_succ]
  refine region_op (i := 18) (oi := ⟨(some 21), (Op.call { callee := (Callee.value (Operand.func 216)), args := #[(Operand.const (Value.int IntKind.i64 999)), (Operand.tmp 20)], argTypes := #[3, 42] }), 4, _, _, (some (14, false))⟩) #[true, true, true, true, true, true, true, true, true, true, true, true, true, true, true, true, true, true, true, false, false] rfl (by kernel_rfl) rfl rfl ?_
  intro K hK
  go_simp; refine (within_any 999 ix _ _ _ (by simp) (by simp)).mono ?_; rintro e w2 ⟨rfl, hb2⟩; have hz2 := hb2.size; simp at hz2
  refine hK _ _ ⟨?_, fun hS => ?_⟩
  · exact keep129 hcl rfl (by repeat (first | exact Below.refl _ _ | refine Below.drew ?_ | refine Below.alloc ?_ (by first | omega | (simp <;> omega)) _ | (refine Below.trans ?_ (Below.mono (by assumption) (by first | omega | (simp <;> omega)))))) rfl rfl
  try simp only [Act.put, List.setIfInBounds_toArray, List.set_cons_zero, List.set_cons_succ]
  refine region_take (i := 19) (oi := ⟨(some 22), (Op.unOp UnOp.not 4 (Operand.tmp 21)), 4, _, _, (some (14, false))⟩) (v := ?_) #[true, true, true, true, true, true, true, true, true, true, true, true, true, true, true, true, true, true, true, true, false] rfl (by kernel_rfl) (by kernel_rfl) (by kernel_rfl) (fun _ _ _ h => h) hS ?_ rfl ?_
  rotate_left
  · refine Or.inl ⟨rfl, fun W hW => ?_⟩
    dsimp only at hW
    obtain ⟨hW0, hW1, hW2, hW3⟩ := hW
    go_simp
    try rfl
  try simp only [Act.put, List.setIfInBounds_toArray, List.set_cons_zero, List.set_cons_succ]
  refine region_take (i := 20) (oi := ⟨(some 23), (Op.pick (Operand.tmp 17) (Operand.const (Value.bool true)) (Operand.tmp 22)), 4, _, _, none⟩) (v := ?_) #[true, true, true, true, true, true, true, true, true, true, true, true, true, true, true, true, true, true, true, true, true] rfl (by kernel_rfl) (by kernel_rfl) (by kernel_rfl) (fun _ _ _ h => h) hS ?_ rfl ?_
  rotate_left
  · refine Or.inl ⟨rfl, fun W hW => ?_⟩
    dsimp only at hW
    obtain ⟨hW0, hW1, hW2, hW3⟩ := hW
    go_simp
    try rfl
  try simp only [Act.put, List.setIfInBounds_toArray, List.set_cons_zero, List.set_cons_succ]
  refine wpAnyH_done (by kernel_rfl) ?_ _
  go_wp2
  go_ret
  exact ⟨by first | rfl | (simp [*]; done) | (simp <;> omega), (by repeat (first | exact Below.refl _ _ | refine Below.drew ?_ | refine Below.alloc ?_ (by first | omega | (simp <;> omega)) _ | (refine Below.trans ?_ (Below.mono (by assumption) (by first | omega | (simp <;> omega))))))⟩
set_option maxRecDepth 100000 in
set_option maxHeartbeats 1000000 in
theorem right_1off (ix wo li rw rf rt rk : Int) (rd wr lk : Bool) (n : Cmd) (hn : Hid (cmdNamed ⟨1, ix, wo, li, ⟨false, rw, rf, rt, rd, wr, rk, lk⟩⟩ = n)) (w : World) (hix : inB 999 ix = true) (hne : eqCmd ⟨1, ix, wo, li, ⟨false, rw, rf, rt, rd, wr, rk, lk⟩⟩ ⟨n.k, n.ix, n.wo, n.li, ⟨n.reg.on, n.reg.rw, n.reg.rf, n.reg.rt, n.reg.rd, n.reg.wr, n.reg.rk, n.reg.lk⟩⟩ = true) :
    Calls Tryz.prog 129 #[.agg #[.int .i64 1, .int .i64 ix, .int .i64 wo, .int .i64 li, .bool false, .int .i64 rw, .int .u32 rf, .int .u32 rt, .bool rd, .bool wr, .int .i64 rk, .bool lk]] w fun e w' => e = .returned (.bool (false)) ∧ Below w.heap.size w w' := by
  have hcl : (w.alloc (.cells #[.int .i64 1, .int .i64 ix, .int .i64 wo, .int .i64 li, .bool false, .int .i64 rw, .int .u32 rf, .int .u32 rt, .bool rd, .bool wr, .int .i64 rk, .bool lk] 31)).heap[w.heap.size]? = some (.cells #[.int .i64 1, .int .i64 ix, .int .i64 wo, .int .i64 li, .bool false, .int .i64 rw, .int .u32 rf, .int .u32 rt, .bool rd, .bool wr, .int .i64 rk, .bool lk] 31) := heap_alloc_new _ _
  have hc0 : (w.alloc (.cells #[.int .i64 1, .int .i64 ix, .int .i64 wo, .int .i64 li, .bool false, .int .i64 rw, .int .u32 rf, .int .u32 rt, .bool rd, .bool wr, .int .i64 rk, .bool lk] 31)).cell? ⟨w.heap.size, 0, none⟩ = some (.int .i64 1) := by simp
  have hc1 : (w.alloc (.cells #[.int .i64 1, .int .i64 ix, .int .i64 wo, .int .i64 li, .bool false, .int .i64 rw, .int .u32 rf, .int .u32 rt, .bool rd, .bool wr, .int .i64 rk, .bool lk] 31)).cell? ⟨w.heap.size, 1, none⟩ = some (.int .i64 ix) := by simp
  have hn0 : decide ((1 : Int) < 1) = false := by simp
  have hn7 : decide ((7 : Int) < 1) = false := by simp
  go_enter Tryz.func129, Tryz.ntmps129
  go_wp2_with fail
  refine region_start (S := (fun W => W.cell? ⟨w.heap.size, 0, none⟩ = some (.int .i64 1) ∧ W.cell? ⟨w.heap.size, 1, none⟩ = some (.int .i64 ix) ∧ IsRow W w.heap.size 12 ∧ rowOf W w.heap.size = #[.int .i64 1, .int .i64 ix, .int .i64 wo, .int .i64 li, .bool false, .int .i64 rw, .int .u32 rf, .int .u32 rt, .bool rd, .bool wr, .int .i64 rk, .bool lk])) 21 rfl #[false, false, false, false, false, false, false, false, false, false, false, false, false, false, false, false, false, false, false, false, false] rfl (by kernel_rfl) ?_
  refine region_s ?_ ?_
  · exact keep129 hcl rfl (by repeat (first | exact Below.refl _ _ | refine Below.drew ?_ | refine Below.alloc ?_ (by first | omega | (simp <;> omega)) _ | (refine Below.trans ?_ (Below.mono (by assumption) (by first | omega | (simp <;> omega)))))) rfl rfl
  intro hS
  refine region_take (i := 0) (oi := ⟨(some 3), (Op.fieldAddr 31 (Operand.tmp 1) 0), 0, _, _, none⟩) (v := ?_) #[true, false, false, false, false, false, false, false, false, false, false, false, false, false, false, false, false, false, false, false, false] rfl (by kernel_rfl) (by kernel_rfl) (by kernel_rfl) (fun _ _ _ h => h) hS ?_ rfl ?_
  rotate_left
  · refine Or.inl ⟨rfl, fun W hW => ?_⟩
    dsimp only at hW
    obtain ⟨hW0, hW1, hW2, hW3⟩ := hW
    go_simp
    try rfl
  try simp only [Act.put, List.setIfInBounds_toArray, List.set_cons_zero, List.set_cons_succ]
  refine region_take (i := 1) (oi := ⟨(some 4), (Op.load 25 (Operand.tmp 3)), 25, _, _, none⟩) (v := ?_) #[true, true, false, false, false, false, false, false, false, false, false, false, false, false, false, false, false, false, false, false, false] rfl (by kernel_rfl) (by kernel_rfl) (by kernel_rfl) (fun _ _ _ h => h) hS ?_ rfl ?_
  rotate_left
  · refine Or.inl ⟨rfl, fun W hW => ?_⟩
    dsimp only at hW
    obtain ⟨hW0, hW1, hW2, hW3⟩ := hW
    go_simp
    try rfl
  try simp only [Act.put, List.setIfInBounds_toArray, List.set_cons_zero, List.set_cons_succ]
  refine region_take (i := 2) (oi := ⟨(some 5), (Op.binOp BinOp.lss 25 (Operand.tmp 4) (Operand.const (Value.int IntKind.i64 1)) 25), 4, _, _, none⟩) (v := ?_) #[true, true, true, false, false, false, false, false, false, false, false, false, false, false, false, false, false, false, false, false, false] rfl (by kernel_rfl) (by kernel_rfl) (by kernel_rfl) (fun _ _ _ h => h) hS ?_ rfl ?_
  rotate_left
  · refine Or.inl ⟨rfl, fun W hW => ?_⟩
    dsimp only at hW
    obtain ⟨hW0, hW1, hW2, hW3⟩ := hW
    go_simp
    try rfl
  try simp only [Act.put, List.setIfInBounds_toArray, List.set_cons_zero, List.set_cons_succ]
  refine region_take (i := 3) (oi := ⟨(some 6), (Op.move (Operand.tmp 5)), 4, _, _, none⟩) (v := ?_) #[true, true, true, true, false, false, false, false, false, false, false, false, false, false, false, false, false, false, false, false, false] rfl (by kernel_rfl) (by kernel_rfl) (by kernel_rfl) (fun _ _ _ h => h) hS ?_ rfl ?_
  rotate_left
  · refine Or.inl ⟨rfl, fun W hW => ?_⟩
    dsimp only at hW
    obtain ⟨hW0, hW1, hW2, hW3⟩ := hW
    go_simp
    try rfl
  try simp only [Act.put, List.setIfInBounds_toArray, List.set_cons_zero, List.set_cons_succ]
  refine region_take (i := 4) (oi := ⟨(some 7), (Op.fieldAddr 31 (Operand.tmp 1) 0), 0, _, _, (some (3, false))⟩) (v := ?_) #[true, true, true, true, true, false, false, false, false, false, false, false, false, false, false, false, false, false, false, false, false] rfl (by kernel_rfl) (by kernel_rfl) (by kernel_rfl) (fun _ _ _ h => h) hS ?_ rfl ?_
  rotate_left
  · refine Or.inl ⟨rfl, fun W hW => ?_⟩
    dsimp only at hW
    obtain ⟨hW0, hW1, hW2, hW3⟩ := hW
    go_simp
    try rfl
  try simp only [Act.put, List.setIfInBounds_toArray, List.set_cons_zero, List.set_cons_succ]
  refine region_take (i := 5) (oi := ⟨(some 8), (Op.load 25 (Operand.tmp 7)), 25, _, _, (some (3, false))⟩) (v := ?_) #[true, true, true, true, true, true, false, false, false, false, false, false, false, false, false, false, false, false, false, false, false] rfl (by kernel_rfl) (by kernel_rfl) (by kernel_rfl) (fun _ _ _ h => h) hS ?_ rfl ?_
  rotate_left
  · refine Or.inl ⟨rfl, fun W hW => ?_⟩
    dsimp only at hW
    obtain ⟨hW0, hW1, hW2, hW3⟩ := hW
    go_simp
    try rfl
  try simp only [Act.put, List.setIfInBounds_toArray, List.set_cons_zero, List.set_cons_succ]
  refine region_take (i := 6) (oi := ⟨(some 9), (Op.binOp BinOp.gtr 25 (Operand.tmp 8) (Operand.const (Value.int IntKind.i64 7)) 25), 4, _, _, (some (3, false))⟩) (v := ?_) #[true, true, true, true, true, true, true, false, false, false, false, false, false, false, false, false, false, false, false, false, false] rfl (by kernel_rfl) (by kernel_rfl) (by kernel_rfl) (fun _ _ _ h => h) hS ?_ rfl ?_
  rotate_left
  · refine Or.inl ⟨rfl, fun W hW => ?_⟩
    dsimp only at hW
    obtain ⟨hW0, hW1, hW2, hW3⟩ := hW
    go_simp
    try rfl
  try simp only [Act.put, List.setIfInBounds_toArray, List.set_cons_zero, List.set_cons_succ]
  refine region_take (i := 7) (oi := ⟨(some 10), (Op.pick (Operand.tmp 6) (Operand.const (Value.bool true)) (Operand.tmp 9)), 4, _, _, none⟩) (v := ?_) #[true, true, true, true, true, true, true, true, false, false, false, false, false, false, false, false, false, false, false, false, false] rfl (by kernel_rfl) (by kernel_rfl) (by kernel_rfl) (fun _ _ _ h => h) hS ?_ rfl ?_
  rotate_left
  · refine Or.inl ⟨rfl, fun W hW => ?_⟩
    dsimp only at hW
    obtain ⟨hW0, hW1, hW2, hW3⟩ := hW
    go_simp
    try rfl
  try simp only [Act.put, List.setIfInBounds_toArray, List.set_cons_zero, List.set_cons_succ]
  refine region_take (i := 8) (oi := ⟨(some 11), (Op.move (Operand.tmp 10)), 4, _, _, none⟩) (v := ?_) #[true, true, true, true, true, true, true, true, true, false, false, false, false, false, false, false, false, false, false, false, false] rfl (by kernel_rfl) (by kernel_rfl) (by kernel_rfl) (fun _ _ _ h => h) hS ?_ rfl ?_
  rotate_left
  · refine Or.inl ⟨rfl, fun W hW => ?_⟩
    dsimp only at hW
    obtain ⟨hW0, hW1, hW2, hW3⟩ := hW
    go_simp
    try rfl
  try simp only [Act.put, List.setIfInBounds_toArray, List.set_cons_zero, List.set_cons_succ]
  refine region_take (i := 9) (oi := ⟨(some 12), (Op.load 31 (Operand.tmp 1)), 31, _, _, (some (8, false))⟩) (v := ?_) #[true, true, true, true, true, true, true, true, true, true, false, false, false, false, false, false, false, false, false, false, false] rfl (by kernel_rfl) (by kernel_rfl) (by kernel_rfl) (fun _ _ _ h => h) hS ?_ rfl ?_
  rotate_left
  · refine Or.inl ⟨rfl, fun W hW => ?_⟩
    dsimp only at hW
    obtain ⟨hW0, hW1, hW2, hW3⟩ := hW
    go_simp
    try rfl
  try simp only [Act.put, List.setIfInBounds_toArray, List.set_cons_zero, List.set_cons_succ]
  refine region_take (i := 10) (oi := ⟨(some 13), (Op.load 31 (Operand.tmp 1)), 31, _, _, (some (8, false))⟩) (v := ?_) #[true, true, true, true, true, true, true, true, true, true, true, false, false, false, false, false, false, false, false, false, false] rfl (by kernel_rfl) (by kernel_rfl) (by kernel_rfl) (fun _ _ _ h => h) hS ?_ rfl ?_
  rotate_left
  · refine Or.inl ⟨rfl, fun W hW => ?_⟩
    dsimp only at hW
    obtain ⟨hW0, hW1, hW2, hW3⟩ := hW
    go_simp
    try rfl
  try simp only [Act.put, List.setIfInBounds_toArray, List.set_cons_zero, List.set_cons_succ]
  refine region_op (i := 11) (oi := ⟨(some 14), (Op.call { callee := (Callee.value (Operand.func 215)), args := #[(Operand.tmp 13)], argTypes := #[31] }), 31, _, _, (some (8, false))⟩) #[true, true, true, true, true, true, true, true, true, true, true, true, false, false, false, false, false, false, false, false, false] rfl (by kernel_rfl) rfl rfl ?_
  intro K hK
  go_simp; refine (named_as _ _ _ _ _ _ _ _ _ _ _ _ n hn _).mono ?_; rintro e w1 ⟨rfl, hb⟩; have hz := hb.size; simp at hz
  refine hK _ _ ⟨?_, fun hS => ?_⟩
  · exact keep129 hcl rfl (by repeat (first | exact Below.refl _ _ | refine Below.drew ?_ | refine Below.alloc ?_ (by first | omega | (simp <;> omega)) _ | (refine Below.trans ?_ (Below.mono (by assumption) (by first | omega | (simp <;> omega)))))) rfl rfl
  try simp only [Act.put, List.setIfInBounds_toArray, List.set_cons_zero, List.set_cons_succ]
  refine region_take (i := 12) (oi := ⟨(some 15), (Op.binOp BinOp.neq 31 (Operand.tmp 12) (Operand.tmp 14) 31), 4, _, _, (some (8, false))⟩) (v := ?_) #[true, true, true, true, true, true, true, true, true, true, true, true, true, false, false, false, false, false, false, false, false] rfl (by kernel_rfl) (by kernel_rfl) (by kernel_rfl) (fun _ _ _ h => h) hS ?_ rfl ?_
  rotate_left
  · refine Or.inl ⟨rfl, fun W hW => ?_⟩
    dsimp only at hW
    obtain ⟨hW0, hW1, hW2, hW3⟩ := hW
    go_simp
    try rfl
  try simp only [Act.put, List.setIfInBounds_toArray, List.set_cons_zero, List.set_cons_succ]
  refine region_take (i := 13) (oi := ⟨(some 16), (Op.pick (Operand.tmp 11) (Operand.const (Value.bool true)) (Operand.tmp 15)), 4, _, _, none⟩) (v := ?_) #[true, true, true, true, true, true, true, true, true, true, true, true, true, true, false, false, false, false, false, false, false] rfl (by kernel_rfl) (by kernel_rfl) (by kernel_rfl) (fun _ _ _ h => h) hS ?_ rfl ?_
  rotate_left
  · refine Or.inl ⟨rfl, fun W hW => ?_⟩
    dsimp only at hW
    obtain ⟨hW0, hW1, hW2, hW3⟩ := hW
    go_simp
    try rfl
  try simp only [Act.put, List.setIfInBounds_toArray, List.set_cons_zero, List.set_cons_succ]
  refine region_take (i := 14) (oi := ⟨(some 17), (Op.move (Operand.tmp 16)), 4, _, _, none⟩) (v := ?_) #[true, true, true, true, true, true, true, true, true, true, true, true, true, true, true, false, false, false, false, false, false] rfl (by kernel_rfl) (by kernel_rfl) (by kernel_rfl) (fun _ _ _ h => h) hS ?_ rfl ?_
  rotate_left
  · refine Or.inl ⟨rfl, fun W hW => ?_⟩
    dsimp only at hW
    obtain ⟨hW0, hW1, hW2, hW3⟩ := hW
    go_simp
    try rfl
  try simp only [Act.put, List.setIfInBounds_toArray, List.set_cons_zero, List.set_cons_succ]
  refine region_take (i := 15) (oi := ⟨(some 18), (Op.fieldAddr 31 (Operand.tmp 1) 1), 0, _, _, (some (14, false))⟩) (v := ?_) #[true, true, true, true, true, true, true, true, true, true, true, true, true, true, true, true, false, false, false, false, false] rfl (by kernel_rfl) (by kernel_rfl) (by kernel_rfl) (fun _ _ _ h => h) hS ?_ rfl ?_
  rotate_left
  · refine Or.inl ⟨rfl, fun W hW => ?_⟩
    dsimp only at hW
    obtain ⟨hW0, hW1, hW2, hW3⟩ := hW
    go_simp
    try rfl
  try simp only [Act.put, List.setIfInBounds_toArray, List.set_cons_zero, List.set_cons_succ]
  refine region_take (i := 16) (oi := ⟨(some 19), (Op.load 3 (Operand.tmp 18)), 3, _, _, (some (14, false))⟩) (v := ?_) #[true, true, true, true, true, true, true, true, true, true, true, true, true, true, true, true, true, false, false, false, false] rfl (by kernel_rfl) (by kernel_rfl) (by kernel_rfl) (fun _ _ _ h => h) hS ?_ rfl ?_
  rotate_left
  · refine Or.inl ⟨rfl, fun W hW => ?_⟩
    dsimp only at hW
    obtain ⟨hW0, hW1, hW2, hW3⟩ := hW
    go_simp
    try rfl
  try simp only [Act.put, List.setIfInBounds_toArray, List.set_cons_zero, List.set_cons_succ]
  refine region_op (i := 17) (oi := ⟨(some 20), (Op.buildSlice 42 1 #[(0, (Operand.tmp 19))]), 42, _, _, (some (14, false))⟩) #[true, true, true, true, true, true, true, true, true, true, true, true, true, true, true, true, true, true, false, false, false] rfl (by kernel_rfl) rfl rfl ?_
  intro K hK
  go_simp
  refine hK _ _ ⟨?_, fun hS => ?_⟩
  · exact keep129 hcl rfl (by repeat (first | exact Below.refl _ _ | refine Below.drew ?_ | refine Below.alloc ?_ (by first | omega | (simp <;> omega)) _ | (refine Below.trans ?_ (Below.mono (by assumption) (by first | omega | (simp <;> omega)))))) rfl rfl
  try simp only [Act.put, List.setIfInBounds_toArray, List.set_cons_zero, List.set_cons_succ]
  refine region_op (i := 18) (oi := ⟨(some 21), (Op.call { callee := (Callee.value (Operand.func 216)), args := #[(Operand.const (Value.int IntKind.i64 999)), (Operand.tmp 20)], argTypes := #[3, 42] }), 4, _, _, (some (14, false))⟩) #[true, true, true, true, true, true, true, true, true, true, true, true, true, true, true, true, true, true, true, false, false] rfl (by kernel_rfl) rfl rfl ?_
  intro K hK
  go_simp; refine (within_any 999 ix _ _ _ (by simp) (by simp)).mono ?_; rintro e w2 ⟨rfl, hb2⟩; have hz2 := hb2.size; simp at hz2
  refine hK _ _ ⟨?_, fun hS => ?_⟩
  · exact keep129 hcl rfl (by repeat (first | exact Below.refl _ _ | refine Below.drew ?_ | refine Below.alloc ?_ (by first | omega | (simp <;> omega)) _ | (refine Below.trans ?_ (Below.mono (by assumption) (by first | omega | (simp <;> omega)))))) rfl rfl
  try simp only [Act.put, List.setIfInBounds_toArray, List.set_cons_zero, List.set_cons_succ]
  refine region_take (i := 19) (oi := ⟨(some 22), (Op.unOp UnOp.not 4 (Operand.tmp 21)), 4, _, _, (some (14, false))⟩) (v := ?_) #[true, true, true, true, true, true, true, true, true, true, true, true, true, true, true, true, true, true, true, true, false] rfl (by kernel_rfl) (by kernel_rfl) (by kernel_rfl) (fun _ _ _ h => h) hS ?_ rfl ?_
  rotate_left
  · refine Or.inl ⟨rfl, fun W hW => ?_⟩
    dsimp only at hW
    obtain ⟨hW0, hW1, hW2, hW3⟩ := hW
    go_simp
    try rfl
  try simp only [Act.put, List.setIfInBounds_toArray, List.set_cons_zero, List.set_cons_succ]
  refine region_take (i := 20) (oi := ⟨(some 23), (Op.pick (Operand.tmp 17) (Operand.const (Value.bool true)) (Operand.tmp 22)), 4, _, _, none⟩) (v := ?_) #[true, true, true, true, true, true, true, true, true, true, true, true, true, true, true, true, true, true, true, true, true] rfl (by kernel_rfl) (by kernel_rfl) (by kernel_rfl) (fun _ _ _ h => h) hS ?_ rfl ?_
  rotate_left
  · refine Or.inl ⟨rfl, fun W hW => ?_⟩
    dsimp only at hW
    obtain ⟨hW0, hW1, hW2, hW3⟩ := hW
    go_simp
    try rfl
  try simp only [Act.put, List.setIfInBounds_toArray, List.set_cons_zero, List.set_cons_succ]
  refine wpAnyH_done (by kernel_rfl) ?_ _
  have hB : Below (w.heap.size + 1) (w.alloc (.cells #[.int .i64 1, .int .i64 ix, .int .i64 wo, .int .i64 li, .bool false, .int .i64 rw, .int .u32 rf, .int .u32 rt, .bool rd, .bool wr, .int .i64 rk, .bool lk] 31)) w2 := (by repeat (first | exact Below.refl _ _ | refine Below.drew ?_ | refine Below.alloc ?_ (by first | omega | (simp <;> omega)) _ | (refine Below.trans ?_ (Below.mono (by assumption) (by first | omega | (simp <;> omega))))))
  have hr := (hB.block w.heap.size (by omega)).trans hcl
  have c0 : w2.cell? ⟨w.heap.size, 0, none⟩ = some (.int .i64 1) := by simp [World.cell?, hr]
  have c1 : w2.cell? ⟨w.heap.size, 1, none⟩ = some (.int .i64 ix) := by simp [World.cell?, hr]
  have c2 : w2.cell? ⟨w.heap.size, 2, none⟩ = some (.int .i64 wo) := by simp [World.cell?, hr]
  have c3 : w2.cell? ⟨w.heap.size, 3, none⟩ = some (.int .i64 li) := by simp [World.cell?, hr]
  have c4 : w2.cell? ⟨w.heap.size, 4, none⟩ = some (.bool false) := by simp [World.cell?, hr]
  have c5 : w2.cell? ⟨w.heap.size, 5, none⟩ = some (.int .i64 rw) := by simp [World.cell?, hr]
  have c6 : w2.cell? ⟨w.heap.size, 6, none⟩ = some (.int .u32 rf) := by simp [World.cell?, hr]
  have c7 : w2.cell? ⟨w.heap.size, 7, none⟩ = some (.int .u32 rt) := by simp [World.cell?, hr]
  have c8 : w2.cell? ⟨w.heap.size, 8, none⟩ = some (.bool rd) := by simp [World.cell?, hr]
  have c9 : w2.cell? ⟨w.heap.size, 9, none⟩ = some (.bool wr) := by simp [World.cell?, hr]
  have c10 : w2.cell? ⟨w.heap.size, 10, none⟩ = some (.int .i64 rk) := by simp [World.cell?, hr]
  have c11 : w2.cell? ⟨w.heap.size, 11, none⟩ = some (.bool lk) := by simp [World.cell?, hr]
  have hlt : w.heap.size < w2.heap.size := by have := hB.size; simp at this; omega
  clear hr hcl hc0 hc1 hS hB hne hn0 hn7
  go_wp2_with (first | (go_at_call 216; (with_reducible refine (within_any 99 rw _ _ _ ?_ ?_).mono ?_); (· simp; done); (· simp; done); rintro e w3 ⟨rfl, hb3⟩; have hz3 := hb3.size; simp at hz3; have hcc := below_cell hb3; have hlt3 : w.heap.size < w3.heap.size := by omega) | (go_at_call 216; (with_reducible refine (within_any 999 rk _ _ _ ?_ ?_).mono ?_); (· simp; done); (· simp; done); rintro e w3 ⟨rfl, hb3⟩; have hz3 := hb3.size; simp at hz3; have hcc := below_cell hb3; have hlt3 : w.heap.size < w3.heap.size := by omega) | (go_at_call 216; (with_reducible refine (within_any 99 wo _ _ _ ?_ ?_).mono ?_); (· simp; done); (· simp; done); rintro e w3 ⟨rfl, hb3⟩; have hz3 := hb3.size; simp at hz3; have hcc := below_cell hb3; have hlt3 : w.heap.size < w3.heap.size := by omega) | (go_at_call 216; (with_reducible refine (within_any 99 li _ _ _ ?_ ?_).mono ?_); (· simp; done); (· simp; done); rintro e w3 ⟨rfl, hb3⟩; have hz3 := hb3.size; simp at hz3; have hcc := below_cell hb3; have hlt3 : w.heap.size < w3.heap.size := by omega) | (go_at_call 216; (with_reducible refine (within_any 99 0 _ _ _ ?_ ?_).mono ?_); (· simp; done); (· simp; done); rintro e w3 ⟨rfl, hb3⟩; have hz3 := hb3.size; simp at hz3; have hcc := below_cell hb3; have hlt3 : w.heap.size < w3.heap.size := by omega))
  go_ret
  exact ⟨by first | rfl | (simp [*]; done) | (simp <;> omega), (by repeat (first | exact Below.refl _ _ | refine Below.drew ?_ | refine Below.alloc ?_ (by first | omega | (simp <;> omega)) _ | (refine Below.trans ?_ (Below.mono (by assumption) (by first | omega | (simp <;> omega))))))⟩
set_option maxRecDepth 100000 in
set_option maxHeartbeats 1000000 in
theorem right_1rw (ix wo li rw rf rt rk : Int) (rd wr lk : Bool) (n : Cmd) (hn : Hid (cmdNamed ⟨1, ix, wo, li, ⟨true, rw, rf, rt, rd, wr, rk, lk⟩⟩ = n)) (w : World) (hix : inB 999 ix = true) (hrw : inB 99 rw = false) (hne : eqCmd ⟨1, ix, wo, li, ⟨true, rw, rf, rt, rd, wr, rk, lk⟩⟩ ⟨n.k, n.ix, n.wo, n.li, ⟨n.reg.on, n.reg.rw, n.reg.rf, n.reg.rt, n.reg.rd, n.reg.wr, n.reg.rk, n.reg.lk⟩⟩ = true) :
    Calls Tryz.prog 129 #[.agg #[.int .i64 1, .int .i64 ix, .int .i64 wo, .int .i64 li, .bool true, .int .i64 rw, .int .u32 rf, .int .u32 rt, .bool rd, .bool wr, .int .i64 rk, .bool lk]] w fun e w' => e = .returned (.bool (false)) ∧ Below w.heap.size w w' := by
  have hcl : (w.alloc (.cells #[.int .i64 1, .int .i64 ix, .int .i64 wo, .int .i64 li, .bool true, .int .i64 rw, .int .u32 rf, .int .u32 rt, .bool rd, .bool wr, .int .i64 rk, .bool lk] 31)).heap[w.heap.size]? = some (.cells #[.int .i64 1, .int .i64 ix, .int .i64 wo, .int .i64 li, .bool true, .int .i64 rw, .int .u32 rf, .int .u32 rt, .bool rd, .bool wr, .int .i64 rk, .bool lk] 31) := heap_alloc_new _ _
  have hc0 : (w.alloc (.cells #[.int .i64 1, .int .i64 ix, .int .i64 wo, .int .i64 li, .bool true, .int .i64 rw, .int .u32 rf, .int .u32 rt, .bool rd, .bool wr, .int .i64 rk, .bool lk] 31)).cell? ⟨w.heap.size, 0, none⟩ = some (.int .i64 1) := by simp
  have hc1 : (w.alloc (.cells #[.int .i64 1, .int .i64 ix, .int .i64 wo, .int .i64 li, .bool true, .int .i64 rw, .int .u32 rf, .int .u32 rt, .bool rd, .bool wr, .int .i64 rk, .bool lk] 31)).cell? ⟨w.heap.size, 1, none⟩ = some (.int .i64 ix) := by simp
  have hn0 : decide ((1 : Int) < 1) = false := by simp
  have hn7 : decide ((7 : Int) < 1) = false := by simp
  go_enter Tryz.func129, Tryz.ntmps129
  go_wp2_with fail
  refine region_start (S := (fun W => W.cell? ⟨w.heap.size, 0, none⟩ = some (.int .i64 1) ∧ W.cell? ⟨w.heap.size, 1, none⟩ = some (.int .i64 ix) ∧ IsRow W w.heap.size 12 ∧ rowOf W w.heap.size = #[.int .i64 1, .int .i64 ix, .int .i64 wo, .int .i64 li, .bool true, .int .i64 rw, .int .u32 rf, .int .u32 rt, .bool rd, .bool wr, .int .i64 rk, .bool lk])) 21 rfl #[false, false, false, false, false, false, false, false, false, false, false, false, false, false, false, false, false, false, false, false, false] rfl (by kernel_rfl) ?_
  refine region_s ?_ ?_
  · exact keep129 hcl rfl (by repeat (first | exact Below.refl _ _ | refine Below.drew ?_ | refine Below.alloc ?_ (by first | omega | (simp <;> omega)) _ | (refine Below.trans ?_ (Below.mono (by assumption) (by first | omega | (simp <;> omega)))))) rfl rfl
  intro hS
  refine region_take (i := 0) (oi := ⟨(some 3), (Op.fieldAddr 31 (Operand.tmp 1) 0), 0, _, _, none⟩) (v := ?_) #[true, false, false, false, false, false, false, false, false, false, false, false, false, false, false, false, false, false, false, false, false] rfl (by kernel_rfl) (by kernel_rfl) (by kernel_rfl) (fun _ _ _ h => h) hS ?_ rfl ?_
  rotate_left
  · refine Or.inl ⟨rfl, fun W hW => ?_⟩
    dsimp only at hW
    obtain ⟨hW0, hW1, hW2, hW3⟩ := hW
    go_simp
    try rfl
  try simp only [Act.put, List.setIfInBounds_toArray, List.set_cons_zero, List.set_cons_succ]
  refine region_take (i := 1) (oi := ⟨(some 4), (Op.load 25 (Operand.tmp 3)), 25, _, _, none⟩) (v := ?_) #[true, true, false, false, false, false, false, false, false, false, false, false, false, false, false, false, false, false, false, false, false] rfl (by kernel_rfl) (by kernel_rfl) (by kernel_rfl) (fun _ _ _ h => h) hS ?_ rfl ?_
  rotate_left
  · refine Or.inl ⟨rfl, fun W hW => ?_⟩
    dsimp only at hW
    obtain ⟨hW0, hW1, hW2, hW3⟩ := hW
    go_simp
    try rfl
  try simp only [Act.put, List.setIfInBounds_toArray, List.set_cons_zero, List.set_cons_succ]
  refine region_take (i := 2) (oi := ⟨(some 5), (Op.binOp BinOp.lss 25 (Operand.tmp 4) (Operand.const (Value.int IntKind.i64 1)) 25), 4, _, _, none⟩) (v := ?_) #[true, true, true, false, false, false, false, false, false, false, false, false, false, false, false, false, false, false, false, false, false] rfl (by kernel_rfl) (by kernel_rfl) (by kernel_rfl) (fun _ _ _ h => h) hS ?_ rfl ?_
  rotate_left
  · refine Or.inl ⟨rfl, fun W hW => ?_⟩
    dsimp only at hW
    obtain ⟨hW0, hW1, hW2, hW3⟩ := hW
    go_simp
    try rfl
  try simp only [Act.put, List.setIfInBounds_toArray, List.set_cons_zero, List.set_cons_succ]
  refine region_take (i := 3) (oi := ⟨(some 6), (Op.move (Operand.tmp 5)), 4, _, _, none⟩) (v := ?_) #[true, true, true, true, false, false, false, false, false, false, false, false, false, false, false, false, false, false, false, false, false] rfl (by kernel_rfl) (by kernel_rfl) (by kernel_rfl) (fun _ _ _ h => h) hS ?_ rfl ?_
  rotate_left
  · refine Or.inl ⟨rfl, fun W hW => ?_⟩
    dsimp only at hW
    obtain ⟨hW0, hW1, hW2, hW3⟩ := hW
    go_simp
    try rfl
  try simp only [Act.put, List.setIfInBounds_toArray, List.set_cons_zero, List.set_cons_succ]
  refine region_take (i := 4) (oi := ⟨(some 7), (Op.fieldAddr 31 (Operand.tmp 1) 0), 0, _, _, (some (3, false))⟩) (v := ?_) #[true, true, true, true, true, false, false, false, false, false, false, false, false, false, false, false, false, false, false, false, false] rfl (by kernel_rfl) (by kernel_rfl) (by kernel_rfl) (fun _ _ _ h => h) hS ?_ rfl ?_
  rotate_left
  · refine Or.inl ⟨rfl, fun W hW => ?_⟩
    dsimp only at hW
    obtain ⟨hW0, hW1, hW2, hW3⟩ := hW
    go_simp
    try rfl
  try simp only [Act.put, List.setIfInBounds_toArray, List.set_cons_zero, List.set_cons_succ]
  refine region_take (i := 5) (oi := ⟨(some 8), (Op.load 25 (Operand.tmp 7)), 25, _, _, (some (3, false))⟩) (v := ?_) #[true, true, true, true, true, true, false, false, false, false, false, false, false, false, false, false, false, false, false, false, false] rfl (by kernel_rfl) (by kernel_rfl) (by kernel_rfl) (fun _ _ _ h => h) hS ?_ rfl ?_
  rotate_left
  · refine Or.inl ⟨rfl, fun W hW => ?_⟩
    dsimp only at hW
    obtain ⟨hW0, hW1, hW2, hW3⟩ := hW
    go_simp
    try rfl
  try simp only [Act.put, List.setIfInBounds_toArray, List.set_cons_zero, List.set_cons_succ]
  refine region_take (i := 6) (oi := ⟨(some 9), (Op.binOp BinOp.gtr 25 (Operand.tmp 8) (Operand.const (Value.int IntKind.i64 7)) 25), 4, _, _, (some (3, false))⟩) (v := ?_) #[true, true, true, true, true, true, true, false, false, false, false, false, false, false, false, false, false, false, false, false, false] rfl (by kernel_rfl) (by kernel_rfl) (by kernel_rfl) (fun _ _ _ h => h) hS ?_ rfl ?_
  rotate_left
  · refine Or.inl ⟨rfl, fun W hW => ?_⟩
    dsimp only at hW
    obtain ⟨hW0, hW1, hW2, hW3⟩ := hW
    go_simp
    try rfl
  try simp only [Act.put, List.setIfInBounds_toArray, List.set_cons_zero, List.set_cons_succ]
  refine region_take (i := 7) (oi := ⟨(some 10), (Op.pick (Operand.tmp 6) (Operand.const (Value.bool true)) (Operand.tmp 9)), 4, _, _, none⟩) (v := ?_) #[true, true, true, true, true, true, true, true, false, false, false, false, false, false, false, false, false, false, false, false, false] rfl (by kernel_rfl) (by kernel_rfl) (by kernel_rfl) (fun _ _ _ h => h) hS ?_ rfl ?_
  rotate_left
  · refine Or.inl ⟨rfl, fun W hW => ?_⟩
    dsimp only at hW
    obtain ⟨hW0, hW1, hW2, hW3⟩ := hW
    go_simp
    try rfl
  try simp only [Act.put, List.setIfInBounds_toArray, List.set_cons_zero, List.set_cons_succ]
  refine region_take (i := 8) (oi := ⟨(some 11), (Op.move (Operand.tmp 10)), 4, _, _, none⟩) (v := ?_) #[true, true, true, true, true, true, true, true, true, false, false, false, false, false, false, false, false, false, false, false, false] rfl (by kernel_rfl) (by kernel_rfl) (by kernel_rfl) (fun _ _ _ h => h) hS ?_ rfl ?_
  rotate_left
  · refine Or.inl ⟨rfl, fun W hW => ?_⟩
    dsimp only at hW
    obtain ⟨hW0, hW1, hW2, hW3⟩ := hW
    go_simp
    try rfl
  try simp only [Act.put, List.setIfInBounds_toArray, List.set_cons_zero, List.set_cons_succ]
  refine region_take (i := 9) (oi := ⟨(some 12), (Op.load 31 (Operand.tmp 1)), 31, _, _, (some (8, false))⟩) (v := ?_) #[true, true, true, true, true, true, true, true, true, true, false, false, false, false, false, false, false, false, false, false, false] rfl (by kernel_rfl) (by kernel_rfl) (by kernel_rfl) (fun _ _ _ h => h) hS ?_ rfl ?_
  rotate_left
  · refine Or.inl ⟨rfl, fun W hW => ?_⟩
    dsimp only at hW
    obtain ⟨hW0, hW1, hW2, hW3⟩ := hW
    go_simp
    try rfl
  try simp only [Act.put, List.setIfInBounds_toArray, List.set_cons_zero, List.set_cons_succ]
  refine region_take (i := 10) (oi := ⟨(some 13), (Op.load 31 (Operand.tmp 1)), 31, _, _, (some (8, false))⟩) (v := ?_) #[true, true, true, true, true, true, true, true, true, true, true, false, false, false, false, false, false, false, false, false, false] rfl (by kernel_rfl) (by kernel_rfl) (by kernel_rfl) (fun _ _ _ h => h) hS ?_ rfl ?_
  rotate_left
  · refine Or.inl ⟨rfl, fun W hW => ?_⟩
    dsimp only at hW
    obtain ⟨hW0, hW1, hW2, hW3⟩ := hW
    go_simp
    try rfl
  try simp only [Act.put, List.setIfInBounds_toArray, List.set_cons_zero, List.set_cons_succ]
  refine region_op (i := 11) (oi := ⟨(some 14), (Op.call { callee := (Callee.value (Operand.func 215)), args := #[(Operand.tmp 13)], argTypes := #[31] }), 31, _, _, (some (8, false))⟩) #[true, true, true, true, true, true, true, true, true, true, true, true, false, false, false, false, false, false, false, false, false] rfl (by kernel_rfl) rfl rfl ?_
  intro K hK
  go_simp; refine (named_as _ _ _ _ _ _ _ _ _ _ _ _ n hn _).mono ?_; rintro e w1 ⟨rfl, hb⟩; have hz := hb.size; simp at hz
  refine hK _ _ ⟨?_, fun hS => ?_⟩
  · exact keep129 hcl rfl (by repeat (first | exact Below.refl _ _ | refine Below.drew ?_ | refine Below.alloc ?_ (by first | omega | (simp <;> omega)) _ | (refine Below.trans ?_ (Below.mono (by assumption) (by first | omega | (simp <;> omega)))))) rfl rfl
  try simp only [Act.put, List.setIfInBounds_toArray, List.set_cons_zero, List.set_cons_succ]
  refine region_take (i := 12) (oi := ⟨(some 15), (Op.binOp BinOp.neq 31 (Operand.tmp 12) (Operand.tmp 14) 31), 4, _, _, (some (8, false))⟩) (v := ?_) #[true, true, true, true, true, true, true, true, true, true, true, true, true, false, false, false, false, false, false, false, false] rfl (by kernel_rfl) (by kernel_rfl) (by kernel_rfl) (fun _ _ _ h => h) hS ?_ rfl ?_
  rotate_left
  · refine Or.inl ⟨rfl, fun W hW => ?_⟩
    dsimp only at hW
    obtain ⟨hW0, hW1, hW2, hW3⟩ := hW
    go_simp
    try rfl
  try simp only [Act.put, List.setIfInBounds_toArray, List.set_cons_zero, List.set_cons_succ]
  refine region_take (i := 13) (oi := ⟨(some 16), (Op.pick (Operand.tmp 11) (Operand.const (Value.bool true)) (Operand.tmp 15)), 4, _, _, none⟩) (v := ?_) #[true, true, true, true, true, true, true, true, true, true, true, true, true, true, false, false, false, false, false, false, false] rfl (by kernel_rfl) (by kernel_rfl) (by kernel_rfl) (fun _ _ _ h => h) hS ?_ rfl ?_
  rotate_left
  · refine Or.inl ⟨rfl, fun W hW => ?_⟩
    dsimp only at hW
    obtain ⟨hW0, hW1, hW2, hW3⟩ := hW
    go_simp
    try rfl
  try simp only [Act.put, List.setIfInBounds_toArray, List.set_cons_zero, List.set_cons_succ]
  refine region_take (i := 14) (oi := ⟨(some 17), (Op.move (Operand.tmp 16)), 4, _, _, none⟩) (v := ?_) #[true, true, true, true, true, true, true, true, true, true, true, true, true, true, true, false, false, false, false, false, false] rfl (by kernel_rfl) (by kernel_rfl) (by kernel_rfl) (fun _ _ _ h => h) hS ?_ rfl ?_
  rotate_left
  · refine Or.inl ⟨rfl, fun W hW => ?_⟩
    dsimp only at hW
    obtain ⟨hW0, hW1, hW2, hW3⟩ := hW
    go_simp
    try rfl
  try simp only [Act.put, List.setIfInBounds_toArray, List.set_cons_zero, List.set_cons_succ]
  refine region_take (i := 15) (oi := ⟨(some 18), (Op.fieldAddr 31 (Operand.tmp 1) 1), 0, _, _, (some (14, false))⟩) (v := ?_) #[true, true, true, true, true, true, true, true, true, true, true, true, true, true, true, true, false, false, false, false, false] rfl (by kernel_rfl) (by kernel_rfl) (by kernel_rfl) (fun _ _ _ h => h) hS ?_ rfl ?_
  rotate_left
  · refine Or.inl ⟨rfl, fun W hW => ?_⟩
    dsimp only at hW
    obtain ⟨hW0, hW1, hW2, hW3⟩ := hW
    go_simp
    try rfl
  try simp only [Act.put, List.setIfInBounds_toArray, List.set_cons_zero, List.set_cons_succ]
  refine region_take (i := 16) (oi := ⟨(some 19), (Op.load 3 (Operand.tmp 18)), 3, _, _, (some (14, false))⟩) (v := ?_) #[true, true, true, true, true, true, true, true, true, true, true, true, true, true, true, true, true, false, false, false, false] rfl (by kernel_rfl) (by kernel_rfl) (by kernel_rfl) (fun _ _ _ h => h) hS ?_ rfl ?_
  rotate_left
  · refine Or.inl ⟨rfl, fun W hW => ?_⟩
    dsimp only at hW
    obtain ⟨hW0, hW1, hW2, hW3⟩ := hW
    go_simp
    try rfl
  try simp only [Act.put, List.setIfInBounds_toArray, List.set_cons_zero, List.set_cons_succ]
  refine region_op (i := 17) (oi := ⟨(some 20), (Op.buildSlice 42 1 #[(0, (Operand.tmp 19))]), 42, _, _, (some (14, false))⟩) #[true, true, true, true, true, true, true, true, true, true, true, true, true, true, true, true, true, true, false, false, false] rfl (by kernel_rfl) rfl rfl ?_
  intro K hK
  go_simp
  refine hK _ _ ⟨?_, fun hS => ?_⟩
  · exact keep129 hcl rfl (by repeat (first | exact Below.refl _ _ | refine Below.drew ?_ | refine Below.alloc ?_ (by first | omega | (simp <;> omega)) _ | (refine Below.trans ?_ (Below.mono (by assumption) (by first | omega | (simp <;> omega)))))) rfl rfl
  try simp only [Act.put, List.setIfInBounds_toArray, List.set_cons_zero, List.set_cons_succ]
  refine region_op (i := 18) (oi := ⟨(some 21), (Op.call { callee := (Callee.value (Operand.func 216)), args := #[(Operand.const (Value.int IntKind.i64 999)), (Operand.tmp 20)], argTypes := #[3, 42] }), 4, _, _, (some (14, false))⟩) #[true, true, true, true, true, true, true, true, true, true, true, true, true, true, true, true, true, true, true, false, false] rfl (by kernel_rfl) rfl rfl ?_
  intro K hK
  go_simp; refine (within_any 999 ix _ _ _ (by simp) (by simp)).mono ?_; rintro e w2 ⟨rfl, hb2⟩; have hz2 := hb2.size; simp at hz2
  refine hK _ _ ⟨?_, fun hS => ?_⟩
  · exact keep129 hcl rfl (by repeat (first | exact Below.refl _ _ | refine Below.drew ?_ | refine Below.alloc ?_ (by first | omega | (simp <;> omega)) _ | (refine Below.trans ?_ (Below.mono (by assumption) (by first | omega | (simp <;> omega)))))) rfl rfl
  try simp only [Act.put, List.setIfInBounds_toArray, List.set_cons_zero, List.set_cons_succ]
  refine region_take (i := 19) (oi := ⟨(some 22), (Op.unOp UnOp.not 4 (Operand.tmp 21)), 4, _, _, (some (14, false))⟩) (v := ?_) #[true, true, true, true, true, true, true, true, true, true, true, true, true, true, true, true, true, true, true, true, false] rfl (by kernel_rfl) (by kernel_rfl) (by kernel_rfl) (fun _ _ _ h => h) hS ?_ rfl ?_
  rotate_left
  · refine Or.inl ⟨rfl, fun W hW => ?_⟩
    dsimp only at hW
    obtain ⟨hW0, hW1, hW2, hW3⟩ := hW
    go_simp
    try rfl
  try simp only [Act.put, List.setIfInBounds_toArray, List.set_cons_zero, List.set_cons_succ]
  refine region_take (i := 20) (oi := ⟨(some 23), (Op.pick (Operand.tmp 17) (Operand.const (Value.bool true)) (Operand.tmp 22)), 4, _, _, none⟩) (v := ?_) #[true, true, true, true, true, true, true, true, true, true, true, true, true, true, true, true, true, true, true, true, true] rfl (by kernel_rfl) (by kernel_rfl) (by kernel_rfl) (fun _ _ _ h => h) hS ?_ rfl ?_
  rotate_left
  · refine Or.inl ⟨rfl, fun W hW => ?_⟩
    dsimp only at hW
    obtain ⟨hW0, hW1, hW2, hW3⟩ := hW
    go_simp
    try rfl
  try simp only [Act.put, List.setIfInBounds_toArray, List.set_cons_zero, List.set_cons_succ]
  refine wpAnyH_done (by kernel_rfl) ?_ _
  have hB : Below (w.heap.size + 1) (w.alloc (.cells #[.int .i64 1, .int .i64 ix, .int .i64 wo, .int .i64 li, .bool true, .int .i64 rw, .int .u32 rf, .int .u32 rt, .bool rd, .bool wr, .int .i64 rk, .bool lk] 31)) w2 := (by repeat (first | exact Below.refl _ _ | refine Below.drew ?_ | refine Below.alloc ?_ (by first | omega | (simp <;> omega)) _ | (refine Below.trans ?_ (Below.mono (by assumption) (by first | omega | (simp <;> omega))))))
  have hr := (hB.block w.heap.size (by omega)).trans hcl
  have c0 : w2.cell? ⟨w.heap.size, 0, none⟩ = some (.int .i64 1) := by simp [World.cell?, hr]
  have c1 : w2.cell? ⟨w.heap.size, 1, none⟩ = some (.int .i64 ix) := by simp [World.cell?, hr]
  have c2 : w2.cell? ⟨w.heap.size, 2, none⟩ = some (.int .i64 wo) := by simp [World.cell?, hr]
  have c3 : w2.cell? ⟨w.heap.size, 3, none⟩ = some (.int .i64 li) := by simp [World.cell?, hr]
  have c4 : w2.cell? ⟨w.heap.size, 4, none⟩ = some (.bool true) := by simp [World.cell?, hr]
  have c5 : w2.cell? ⟨w.heap.size, 5, none⟩ = some (.int .i64 rw) := by simp [World.cell?, hr]
  have c6 : w2.cell? ⟨w.heap.size, 6, none⟩ = some (.int .u32 rf) := by simp [World.cell?, hr]
  have c7 : w2.cell? ⟨w.heap.size, 7, none⟩ = some (.int .u32 rt) := by simp [World.cell?, hr]
  have c8 : w2.cell? ⟨w.heap.size, 8, none⟩ = some (.bool rd) := by simp [World.cell?, hr]
  have c9 : w2.cell? ⟨w.heap.size, 9, none⟩ = some (.bool wr) := by simp [World.cell?, hr]
  have c10 : w2.cell? ⟨w.heap.size, 10, none⟩ = some (.int .i64 rk) := by simp [World.cell?, hr]
  have c11 : w2.cell? ⟨w.heap.size, 11, none⟩ = some (.bool lk) := by simp [World.cell?, hr]
  have hlt : w.heap.size < w2.heap.size := by have := hB.size; simp at this; omega
  clear hr hcl hc0 hc1 hS hB hne hn0 hn7
  go_wp2_with (first | (go_at_call 216; (with_reducible refine (within_any 99 rw _ _ _ ?_ ?_).mono ?_); (· simp; done); (· simp; done); rintro e w3 ⟨rfl, hb3⟩; have hz3 := hb3.size; simp at hz3; have hcc := below_cell hb3; have hlt3 : w.heap.size < w3.heap.size := by omega) | (go_at_call 216; (with_reducible refine (within_any 999 rk _ _ _ ?_ ?_).mono ?_); (· simp; done); (· simp; done); rintro e w3 ⟨rfl, hb3⟩; have hz3 := hb3.size; simp at hz3; have hcc := below_cell hb3; have hlt3 : w.heap.size < w3.heap.size := by omega) | (go_at_call 216; (with_reducible refine (within_any 99 wo _ _ _ ?_ ?_).mono ?_); (· simp; done); (· simp; done); rintro e w3 ⟨rfl, hb3⟩; have hz3 := hb3.size; simp at hz3; have hcc := below_cell hb3; have hlt3 : w.heap.size < w3.heap.size := by omega) | (go_at_call 216; (with_reducible refine (within_any 99 li _ _ _ ?_ ?_).mono ?_); (· simp; done); (· simp; done); rintro e w3 ⟨rfl, hb3⟩; have hz3 := hb3.size; simp at hz3; have hcc := below_cell hb3; have hlt3 : w.heap.size < w3.heap.size := by omega) | (go_at_call 216; (with_reducible refine (within_any 99 0 _ _ _ ?_ ?_).mono ?_); (· simp; done); (· simp; done); rintro e w3 ⟨rfl, hb3⟩; have hz3 := hb3.size; simp at hz3; have hcc := below_cell hb3; have hlt3 : w.heap.size < w3.heap.size := by omega))
  go_ret
  exact ⟨by first | rfl | (simp [*]; done) | (simp <;> omega), (by repeat (first | exact Below.refl _ _ | refine Below.drew ?_ | refine Below.alloc ?_ (by first | omega | (simp <;> omega)) _ | (refine Below.trans ?_ (Below.mono (by assumption) (by first | omega | (simp <;> omega))))))⟩
set_option maxRecDepth 100000 in
set_option maxHeartbeats 1000000 in
theorem right_1ok (ix wo li rw rf rt rk : Int) (rd wr lk : Bool) (n : Cmd) (hn : Hid (cmdNamed ⟨1, ix, wo, li, ⟨true, rw, rf, rt, rd, wr, rk, lk⟩⟩ = n)) (w : World) (hix : inB 999 ix = true) (hrw : inB 99 rw = true) (hne : eqCmd ⟨1, ix, wo, li, ⟨true, rw, rf, rt, rd, wr, rk, lk⟩⟩ ⟨n.k, n.ix, n.wo, n.li, ⟨n.reg.on, n.reg.rw, n.reg.rf, n.reg.rt, n.reg.rd, n.reg.wr, n.reg.rk, n.reg.lk⟩⟩ = true) :
    Calls Tryz.prog 129 #[.agg #[.int .i64 1, .int .i64 ix, .int .i64 wo, .int .i64 li, .bool true, .int .i64 rw, .int .u32 rf, .int .u32 rt, .bool rd, .bool wr, .int .i64 rk, .bool lk]] w fun e w' => e = .returned (.bool (inB 999 rk)) ∧ Below w.heap.size w w' := by
  have hcl : (w.alloc (.cells #[.int .i64 1, .int .i64 ix, .int .i64 wo, .int .i64 li, .bool true, .int .i64 rw, .int .u32 rf, .int .u32 rt, .bool rd, .bool wr, .int .i64 rk, .bool lk] 31)).heap[w.heap.size]? = some (.cells #[.int .i64 1, .int .i64 ix, .int .i64 wo, .int .i64 li, .bool true, .int .i64 rw, .int .u32 rf, .int .u32 rt, .bool rd, .bool wr, .int .i64 rk, .bool lk] 31) := heap_alloc_new _ _
  have hc0 : (w.alloc (.cells #[.int .i64 1, .int .i64 ix, .int .i64 wo, .int .i64 li, .bool true, .int .i64 rw, .int .u32 rf, .int .u32 rt, .bool rd, .bool wr, .int .i64 rk, .bool lk] 31)).cell? ⟨w.heap.size, 0, none⟩ = some (.int .i64 1) := by simp
  have hc1 : (w.alloc (.cells #[.int .i64 1, .int .i64 ix, .int .i64 wo, .int .i64 li, .bool true, .int .i64 rw, .int .u32 rf, .int .u32 rt, .bool rd, .bool wr, .int .i64 rk, .bool lk] 31)).cell? ⟨w.heap.size, 1, none⟩ = some (.int .i64 ix) := by simp
  have hn0 : decide ((1 : Int) < 1) = false := by simp
  have hn7 : decide ((7 : Int) < 1) = false := by simp
  go_enter Tryz.func129, Tryz.ntmps129
  go_wp2_with fail
  refine region_start (S := (fun W => W.cell? ⟨w.heap.size, 0, none⟩ = some (.int .i64 1) ∧ W.cell? ⟨w.heap.size, 1, none⟩ = some (.int .i64 ix) ∧ IsRow W w.heap.size 12 ∧ rowOf W w.heap.size = #[.int .i64 1, .int .i64 ix, .int .i64 wo, .int .i64 li, .bool true, .int .i64 rw, .int .u32 rf, .int .u32 rt, .bool rd, .bool wr, .int .i64 rk, .bool lk])) 21 rfl #[false, false, false, false, false, false, false, false, false, false, false, false, false, false, false, false, false, false, false, false, false] rfl (by kernel_rfl) ?_
  refine region_s ?_ ?_
  · exact keep129 hcl rfl (by repeat (first | exact Below.refl _ _ | refine Below.drew ?_ | refine Below.alloc ?_ (by first | omega | (simp <;> omega)) _ | (refine Below.trans ?_ (Below.mono (by assumption) (by first | omega | (simp <;> omega)))))) rfl rfl
  intro hS
  refine region_take (i := 0) (oi := ⟨(some 3), (Op.fieldAddr 31 (Operand.tmp 1) 0), 0, _, _, none⟩) (v := ?_) #[true, false, false, false, false, false, false, false, false, false, false, false, false, false, false, false, false, false, false, false, false] rfl (by kernel_rfl) (by kernel_rfl) (by kernel_rfl) (fun _ _ _ h => h) hS ?_ rfl ?_
  rotate_left
  · refine Or.inl ⟨rfl, fun W hW => ?_⟩
    dsimp only at hW
    obtain ⟨hW0, hW1, hW2, hW3⟩ := hW
    go_simp
    try rfl
  try simp only [Act.put, List.setIfInBounds_toArray, List.set_cons_zero, List.set_cons_succ]
  refine region_take (i := 1) (oi := ⟨(some 4), (Op.load 25 (Operand.tmp 3)), 25, _, _, none⟩) (v := ?_) #[true, true, false, false, false, false, false, false, false, false, false, false, false, false, false, false, false, false, false, false, false] rfl (by kernel_rfl) (by kernel_rfl) (by kernel_rfl) (fun _ _ _ h => h) hS ?_ rfl ?_
  rotate_left
  · refine Or.inl ⟨rfl, fun W hW => ?_⟩
    dsimp only at hW
    obtain ⟨hW0, hW1, hW2, hW3⟩ := hW
    go_simp
    try rfl
  try simp only [Act.put, List.setIfInBounds_toArray, List.set_cons_zero, List.set_cons_succ]
  refine region_take (i := 2) (oi := ⟨(some 5), (Op.binOp BinOp.lss 25 (Operand.tmp 4) (Operand.const (Value.int IntKind.i64 1)) 25), 4, _, _, none⟩) (v := ?_) #[true, true, true, false, false, false, false, false, false, false, false, false, false, false, false, false, false, false, false, false, false] rfl (by kernel_rfl) (by kernel_rfl) (by kernel_rfl) (fun _ _ _ h => h) hS ?_ rfl ?_
  rotate_left
  · refine Or.inl ⟨rfl, fun W hW => ?_⟩
    dsimp only at hW
    obtain ⟨hW0, hW1, hW2, hW3⟩ := hW
    go_simp
    try rfl
  try simp only [Act.put, List.setIfInBounds_toArray, List.set_cons_zero, List.set_cons_succ]
  refine region_take (i := 3) (oi := ⟨(some 6), (Op.move (Operand.tmp 5)), 4, _, _, none⟩) (v := ?_) #[true, true, true, true, false, false, false, false, false, false, false, false, false, false, false, false, false, false, false, false, false] rfl (by kernel_rfl) (by kernel_rfl) (by kernel_rfl) (fun _ _ _ h => h) hS ?_ rfl ?_
  rotate_left
  · refine Or.inl ⟨rfl, fun W hW => ?_⟩
    dsimp only at hW
    obtain ⟨hW0, hW1, hW2, hW3⟩ := hW
    go_simp
    try rfl
  try simp only [Act.put, List.setIfInBounds_toArray, List.set_cons_zero, List.set_cons_succ]
  refine region_take (i := 4) (oi := ⟨(some 7), (Op.fieldAddr 31 (Operand.tmp 1) 0), 0, _, _, (some (3, false))⟩) (v := ?_) #[true, true, true, true, true, false, false, false, false, false, false, false, false, false, false, false, false, false, false, false, false] rfl (by kernel_rfl) (by kernel_rfl) (by kernel_rfl) (fun _ _ _ h => h) hS ?_ rfl ?_
  rotate_left
  · refine Or.inl ⟨rfl, fun W hW => ?_⟩
    dsimp only at hW
    obtain ⟨hW0, hW1, hW2, hW3⟩ := hW
    go_simp
    try rfl
  try simp only [Act.put, List.setIfInBounds_toArray, List.set_cons_zero, List.set_cons_succ]
  refine region_take (i := 5) (oi := ⟨(some 8), (Op.load 25 (Operand.tmp 7)), 25, _, _, (some (3, false))⟩) (v := ?_) #[true, true, true, true, true, true, false, false, false, false, false, false, false, false, false, false, false, false, false, false, false] rfl (by kernel_rfl) (by kernel_rfl) (by kernel_rfl) (fun _ _ _ h => h) hS ?_ rfl ?_
  rotate_left
  · refine Or.inl ⟨rfl, fun W hW => ?_⟩
    dsimp only at hW
    obtain ⟨hW0, hW1, hW2, hW3⟩ := hW
    go_simp
    try rfl
  try simp only [Act.put, List.setIfInBounds_toArray, List.set_cons_zero, List.set_cons_succ]
  refine region_take (i := 6) (oi := ⟨(some 9), (Op.binOp BinOp.gtr 25 (Operand.tmp 8) (Operand.const (Value.int IntKind.i64 7)) 25), 4, _, _, (some (3, false))⟩) (v := ?_) #[true, true, true, true, true, true, true, false, false, false, false, false, false, false, false, false, false, false, false, false, false] rfl (by kernel_rfl) (by kernel_rfl) (by kernel_rfl) (fun _ _ _ h => h) hS ?_ rfl ?_
  rotate_left
  · refine Or.inl ⟨rfl, fun W hW => ?_⟩
    dsimp only at hW
    obtain ⟨hW0, hW1, hW2, hW3⟩ := hW
    go_simp
    try rfl
  try simp only [Act.put, List.setIfInBounds_toArray, List.set_cons_zero, List.set_cons_succ]
  refine region_take (i := 7) (oi := ⟨(some 10), (Op.pick (Operand.tmp 6) (Operand.const (Value.bool true)) (Operand.tmp 9)), 4, _, _, none⟩) (v := ?_) #[true, true, true, true, true, true, true, true, false, false, false, false, false, false, false, false, false, false, false, false, false] rfl (by kernel_rfl) (by kernel_rfl) (by kernel_rfl) (fun _ _ _ h => h) hS ?_ rfl ?_
  rotate_left
  · refine Or.inl ⟨rfl, fun W hW => ?_⟩
    dsimp only at hW
    obtain ⟨hW0, hW1, hW2, hW3⟩ := hW
    go_simp
    try rfl
  try simp only [Act.put, List.setIfInBounds_toArray, List.set_cons_zero, List.set_cons_succ]
  refine region_take (i := 8) (oi := ⟨(some 11), (Op.move (Operand.tmp 10)), 4, _, _, none⟩) (v := ?_) #[true, true, true, true, true, true, true, true, true, false, false, false, false, false, false, false, false, false, false, false, false] rfl (by kernel_rfl) (by kernel_rfl) (by kernel_rfl) (fun _ _ _ h => h) hS ?_ rfl ?_
  rotate_left
  · refine Or.inl ⟨rfl, fun W hW => ?_⟩
    dsimp only at hW
    obtain ⟨hW0, hW1, hW2, hW3⟩ := hW
    go_simp
    try rfl
  try simp only [Act.put, List.setIfInBounds_toArray, List.set_cons_zero, List.set_cons_succ]
  refine region_take (i := 9) (oi := ⟨(some 12), (Op.load 31 (Operand.tmp 1)), 31, _, _, (some (8, false))⟩) (v := ?_) #[true, true, true, true, true, true, true, true, true, true, false, false, false, false, false, false, false, false, false, false, false] rfl (by kernel_rfl) (by kernel_rfl) (by kernel_rfl) (fun _ _ _ h => h) hS ?_ rfl ?_
  rotate_left
  · refine Or.inl ⟨rfl, fun W hW => ?_⟩
    dsimp only at hW
    obtain ⟨hW0, hW1, hW2, hW3⟩ := hW
    go_simp
    try rfl
  try simp only [Act.put, List.setIfInBounds_toArray, List.set_cons_zero, List.set_cons_succ]
  refine region_take (i := 10) (oi := ⟨(some 13), (Op.load 31 (Operand.tmp 1)), 31, _, _, (some (8, false))⟩) (v := ?_) #[true, true, true, true, true, true, true, true, true, true, true, false, false, false, false, false, false, false, false, false, false] rfl (by kernel_rfl) (by kernel_rfl) (by kernel_rfl) (fun _ _ _ h => h) hS ?_ rfl ?_
  rotate_left
  · refine Or.inl ⟨rfl, fun W hW => ?_⟩
    dsimp only at hW
    obtain ⟨hW0, hW1, hW2, hW3⟩ := hW
    go_simp
    try rfl
  try simp only [Act.put, List.setIfInBounds_toArray, List.set_cons_zero, List.set_cons_succ]
  refine region_op (i := 11) (oi := ⟨(some 14), (Op.call { callee := (Callee.value (Operand.func 215)), args := #[(Operand.tmp 13)], argTypes := #[31] }), 31, _, _, (some (8, false))⟩) #[true, true, true, true, true, true, true, true, true, true, true, true, false, false, false, false, false, false, false, false, false] rfl (by kernel_rfl) rfl rfl ?_
  intro K hK
  go_simp; refine (named_as _ _ _ _ _ _ _ _ _ _ _ _ n hn _).mono ?_; rintro e w1 ⟨rfl, hb⟩; have hz := hb.size; simp at hz
  refine hK _ _ ⟨?_, fun hS => ?_⟩
  · exact keep129 hcl rfl (by repeat (first | exact Below.refl _ _ | refine Below.drew ?_ | refine Below.alloc ?_ (by first | omega | (simp <;> omega)) _ | (refine Below.trans ?_ (Below.mono (by assumption) (by first | omega | (simp <;> omega)))))) rfl rfl
  try simp only [Act.put, List.setIfInBounds_toArray, List.set_cons_zero, List.set_cons_succ]
  refine region_take (i := 12) (oi := ⟨(some 15), (Op.binOp BinOp.neq 31 (Operand.tmp 12) (Operand.tmp 14) 31), 4, _, _, (some (8, false))⟩) (v := ?_) #[true, true, true, true, true, true, true, true, true, true, true, true, true, false, false, false, false, false, false, false, false] rfl (by kernel_rfl) (by kernel_rfl) (by kernel_rfl) (fun _ _ _ h => h) hS ?_ rfl ?_
  rotate_left
  · refine Or.inl ⟨rfl, fun W hW => ?_⟩
    dsimp only at hW
    obtain ⟨hW0, hW1, hW2, hW3⟩ := hW
    go_simp
    try rfl
  try simp only [Act.put, List.setIfInBounds_toArray, List.set_cons_zero, List.set_cons_succ]
  refine region_take (i := 13) (oi := ⟨(some 16), (Op.pick (Operand.tmp 11) (Operand.const (Value.bool true)) (Operand.tmp 15)), 4, _, _, none⟩) (v := ?_) #[true, true, true, true, true, true, true, true, true, true, true, true, true, true, false, false, false, false, false, false, false] rfl (by kernel_rfl) (by kernel_rfl) (by kernel_rfl) (fun _ _ _ h => h) hS ?_ rfl ?_
  rotate_left
  · refine Or.inl ⟨rfl, fun W hW => ?_⟩
    dsimp only at hW
    obtain ⟨hW0, hW1, hW2, hW3⟩ := hW
    go_simp
    try rfl
  try simp only [Act.put, List.setIfInBounds_toArray, List.set_cons_zero, List.set_cons_succ]
  refine region_take (i := 14) (oi := ⟨(some 17), (Op.move (Operand.tmp 16)), 4, _, _, none⟩) (v := ?_) #[true, true, true, true, true, true, true, true, true, true, true, true, true, true, true, false, false, false, false, false, false] rfl (by kernel_rfl) (by kernel_rfl) (by kernel_rfl) (fun _ _ _ h => h) hS ?_ rfl ?_
  rotate_left
  · refine Or.inl ⟨rfl, fun W hW => ?_⟩
    dsimp only at hW
    obtain ⟨hW0, hW1, hW2, hW3⟩ := hW
    go_simp
    try rfl
  try simp only [Act.put, List.setIfInBounds_toArray, List.set_cons_zero, List.set_cons_succ]
  refine region_take (i := 15) (oi := ⟨(some 18), (Op.fieldAddr 31 (Operand.tmp 1) 1), 0, _, _, (some (14, false))⟩) (v := ?_) #[true, true, true, true, true, true, true, true, true, true, true, true, true, true, true, true, false, false, false, false, false] rfl (by kernel_rfl) (by kernel_rfl) (by kernel_rfl) (fun _ _ _ h => h) hS ?_ rfl ?_
  rotate_left
  · refine Or.inl ⟨rfl, fun W hW => ?_⟩
    dsimp only at hW
    obtain ⟨hW0, hW1, hW2, hW3⟩ := hW
    go_simp
    try rfl
  try simp only [Act.put, List.setIfInBounds_toArray, List.set_cons_zero, List.set_cons_succ]
  refine region_take (i := 16) (oi := ⟨(some 19), (Op.load 3 (Operand.tmp 18)), 3, _, _, (some (14, false))⟩) (v := ?_) #[true, true, true, true, true, true, true, true, true, true, true, true, true, true, true, true, true, false, false, false, false] rfl (by kernel_rfl) (by kernel_rfl) (by kernel_rfl) (fun _ _ _ h => h) hS ?_ rfl ?_
  rotate_left
  · refine Or.inl ⟨rfl, fun W hW => ?_⟩
    dsimp only at hW
    obtain ⟨hW0, hW1, hW2, hW3⟩ := hW
    go_simp
    try rfl
  try simp only [Act.put, List.setIfInBounds_toArray, List.set_cons_zero, List.set_cons_succ]
  refine region_op (i := 17) (oi := ⟨(some 20), (Op.buildSlice 42 1 #[(0, (Operand.tmp 19))]), 42, _, _, (some (14, false))⟩) #[true, true, true, true, true, true, true, true, true, true, true, true, true, true, true, true, true, true, false, false, false] rfl (by kernel_rfl) rfl rfl ?_
  intro K hK
  go_simp
  refine hK _ _ ⟨?_, fun hS => ?_⟩
  · exact keep129 hcl rfl (by repeat (first | exact Below.refl _ _ | refine Below.drew ?_ | refine Below.alloc ?_ (by first | omega | (simp <;> omega)) _ | (refine Below.trans ?_ (Below.mono (by assumption) (by first | omega | (simp <;> omega)))))) rfl rfl
  try simp only [Act.put, List.setIfInBounds_toArray, List.set_cons_zero, List.set_cons_succ]
  refine region_op (i := 18) (oi := ⟨(some 21), (Op.call { callee := (Callee.value (Operand.func 216)), args := #[(Operand.const (Value.int IntKind.i64 999)), (Operand.tmp 20)], argTypes := #[3, 42] }), 4, _, _, (some (14, false))⟩) #[true, true, true, true, true, true, true, true, true, true, true, true, true, true, true, true, true, true, true, false, false] rfl (by kernel_rfl) rfl rfl ?_
  intro K hK
  go_simp; refine (within_any 999 ix _ _ _ (by simp) (by simp)).mono ?_; rintro e w2 ⟨rfl, hb2⟩; have hz2 := hb2.size; simp at hz2
  refine hK _ _ ⟨?_, fun hS => ?_⟩
  · exact keep129 hcl rfl (by repeat (first | exact Below.refl _ _ | refine Below.drew ?_ | refine Below.alloc ?_ (by first | omega | (simp <;> omega)) _ | (refine Below.trans ?_ (Below.mono (by assumption) (by first | omega | (simp <;> omega)))))) rfl rfl
  try simp only [Act.put, List.setIfInBounds_toArray, List.set_cons_zero, List.set_cons_succ]
  refine region_take (i := 19) (oi := ⟨(some 22), (Op.unOp UnOp.not 4 (Operand.tmp 21)), 4, _, _, (some (14, false))⟩) (v := ?_) #[true, true, true, true, true, true, true, true, true, true, true, true, true, true, true, true, true, true, true, true, false] rfl (by kernel_rfl) (by kernel_rfl) (by kernel_rfl) (fun _ _ _ h => h) hS ?_ rfl ?_
  rotate_left
  · refine Or.inl ⟨rfl, fun W hW => ?_⟩
    dsimp only at hW
    obtain ⟨hW0, hW1, hW2, hW3⟩ := hW
    go_simp
    try rfl
  try simp only [Act.put, List.setIfInBounds_toArray, List.set_cons_zero, List.set_cons_succ]
  refine region_take (i := 20) (oi := ⟨(some 23), (Op.pick (Operand.tmp 17) (Operand.const (Value.bool true)) (Operand.tmp 22)), 4, _, _, none⟩) (v := ?_) #[true, true, true, true, true, true, true, true, true, true, true, true, true, true, true, true, true, true, true, true, true] rfl (by kernel_rfl) (by kernel_rfl) (by kernel_rfl) (fun _ _ _ h => h) hS ?_ rfl ?_
  rotate_left
  · refine Or.inl ⟨rfl, fun W hW => ?_⟩
    dsimp only at hW
    obtain ⟨hW0, hW1, hW2, hW3⟩ := hW
    go_simp
    try rfl
  try simp only [Act.put, List.setIfInBounds_toArray, List.set_cons_zero, List.set_cons_succ]
  refine wpAnyH_done (by kernel_rfl) ?_ _
  have hB : Below (w.heap.size + 1) (w.alloc (.cells #[.int .i64 1, .int .i64 ix, .int .i64 wo, .int .i64 li, .bool true, .int .i64 rw, .int .u32 rf, .int .u32 rt, .bool rd, .bool wr, .int .i64 rk, .bool lk] 31)) w2 := (by repeat (first | exact Below.refl _ _ | refine Below.drew ?_ | refine Below.alloc ?_ (by first | omega | (simp <;> omega)) _ | (refine Below.trans ?_ (Below.mono (by assumption) (by first | omega | (simp <;> omega))))))
  have hr := (hB.block w.heap.size (by omega)).trans hcl
  have c0 : w2.cell? ⟨w.heap.size, 0, none⟩ = some (.int .i64 1) := by simp [World.cell?, hr]
  have c1 : w2.cell? ⟨w.heap.size, 1, none⟩ = some (.int .i64 ix) := by simp [World.cell?, hr]
  have c2 : w2.cell? ⟨w.heap.size, 2, none⟩ = some (.int .i64 wo) := by simp [World.cell?, hr]
  have c3 : w2.cell? ⟨w.heap.size, 3, none⟩ = some (.int .i64 li) := by simp [World.cell?, hr]
  have c4 : w2.cell? ⟨w.heap.size, 4, none⟩ = some (.bool true) := by simp [World.cell?, hr]
  have c5 : w2.cell? ⟨w.heap.size, 5, none⟩ = some (.int .i64 rw) := by simp [World.cell?, hr]
  have c6 : w2.cell? ⟨w.heap.size, 6, none⟩ = some (.int .u32 rf) := by simp [World.cell?, hr]
  have c7 : w2.cell? ⟨w.heap.size, 7, none⟩ = some (.int .u32 rt) := by simp [World.cell?, hr]
  have c8 : w2.cell? ⟨w.heap.size, 8, none⟩ = some (.bool rd) := by simp [World.cell?, hr]
  have c9 : w2.cell? ⟨w.heap.size, 9, none⟩ = some (.bool wr) := by simp [World.cell?, hr]
  have c10 : w2.cell? ⟨w.heap.size, 10, none⟩ = some (.int .i64 rk) := by simp [World.cell?, hr]
  have c11 : w2.cell? ⟨w.heap.size, 11, none⟩ = some (.bool lk) := by simp [World.cell?, hr]
  have hlt : w.heap.size < w2.heap.size := by have := hB.size; simp at this; omega
  clear hr hcl hc0 hc1 hS hB hne hn0 hn7
  go_wp2_with (first | (go_at_call 216; (with_reducible refine (within_any 99 rw _ _ _ ?_ ?_).mono ?_); (· simp; done); (· simp; done); rintro e w3 ⟨rfl, hb3⟩; have hz3 := hb3.size; simp at hz3; have hcc := below_cell hb3; have hlt3 : w.heap.size < w3.heap.size := by omega) | (go_at_call 216; (with_reducible refine (within_any 999 rk _ _ _ ?_ ?_).mono ?_); (· simp; done); (· simp; done); rintro e w3 ⟨rfl, hb3⟩; have hz3 := hb3.size; simp at hz3; have hcc := below_cell hb3; have hlt3 : w.heap.size < w3.heap.size := by omega) | (go_at_call 216; (with_reducible refine (within_any 99 wo _ _ _ ?_ ?_).mono ?_); (· simp; done); (· simp; done); rintro e w3 ⟨rfl, hb3⟩; have hz3 := hb3.size; simp at hz3; have hcc := below_cell hb3; have hlt3 : w.heap.size < w3.heap.size := by omega) | (go_at_call 216; (with_reducible refine (within_any 99 li _ _ _ ?_ ?_).mono ?_); (· simp; done); (· simp; done); rintro e w3 ⟨rfl, hb3⟩; have hz3 := hb3.size; simp at hz3; have hcc := below_cell hb3; have hlt3 : w.heap.size < w3.heap.size := by omega) | (go_at_call 216; (with_reducible refine (within_any 99 0 _ _ _ ?_ ?_).mono ?_); (· simp; done); (· simp; done); rintro e w3 ⟨rfl, hb3⟩; have hz3 := hb3.size; simp at hz3; have hcc := below_cell hb3; have hlt3 : w.heap.size < w3.heap.size := by omega))
  go_ret
  exact ⟨by first | rfl | (simp [*]; done) | (simp <;> omega), (by repeat (first | exact Below.refl _ _ | refine Below.drew ?_ | refine Below.alloc ?_ (by first | omega | (simp <;> omega)) _ | (refine Below.trans ?_ (Below.mono (by assumption) (by first | omega | (simp <;> omega))))))⟩
set_option maxRecDepth 100000 in
set_option maxHeartbeats 1000000 in
theorem right_wo (k ix wo li rw rf rt rk : Int) (on rd wr lk : Bool) (n : Cmd) (hn : Hid (cmdNamed ⟨k, ix, wo, li, ⟨on, rw, rf, rt, rd, wr, rk, lk⟩⟩ = n)) (w : World) (h0 : 1 ≤ k) (h7 : k ≤ 7) (hix : inB 999 ix = true) (hk : (k == 1) = false) (hwo : inB 99 wo = false) (hne : eqCmd ⟨k, ix, wo, li, ⟨on, rw, rf, rt, rd, wr, rk, lk⟩⟩ ⟨n.k, n.ix, n.wo, n.li, ⟨n.reg.on, n.reg.rw, n.reg.rf, n.reg.rt, n.reg.rd, n.reg.wr, n.reg.rk, n.reg.lk⟩⟩ = true) :
    Calls Tryz.prog 129 #[.agg #[.int .i64 k, .int .i64 ix, .int .i64 wo, .int .i64 li, .bool on, .int .i64 rw, .int .u32 rf, .int .u32 rt, .bool rd, .bool wr, .int .i64 rk, .bool lk]] w fun e w' => e = .returned (.bool (false)) ∧ Below w.heap.size w w' := by
  have hcl : (w.alloc (.cells #[.int .i64 k, .int .i64 ix, .int .i64 wo, .int .i64 li, .bool on, .int .i64 rw, .int .u32 rf, .int .u32 rt, .bool rd, .bool wr, .int .i64 rk, .bool lk] 31)).heap[w.heap.size]? = some (.cells #[.int .i64 k, .int .i64 ix, .int .i64 wo, .int .i64 li, .bool on, .int .i64 rw, .int .u32 rf, .int .u32 rt, .bool rd, .bool wr, .int .i64 rk, .bool lk] 31) := heap_alloc_new _ _
  have hc0 : (w.alloc (.cells #[.int .i64 k, .int .i64 ix, .int .i64 wo, .int .i64 li, .bool on, .int .i64 rw, .int .u32 rf, .int .u32 rt, .bool rd, .bool wr, .int .i64 rk, .bool lk] 31)).cell? ⟨w.heap.size, 0, none⟩ = some (.int .i64 k) := by simp
  have hc1 : (w.alloc (.cells #[.int .i64 k, .int .i64 ix, .int .i64 wo, .int .i64 li, .bool on, .int .i64 rw, .int .u32 rf, .int .u32 rt, .bool rd, .bool wr, .int .i64 rk, .bool lk] 31)).cell? ⟨w.heap.size, 1, none⟩ = some (.int .i64 ix) := by simp
  have hn0 : decide (k < 1) = false := by simp; omega
  have hn7 : decide (7 < k) = false := by simp; omega
  clear h0 h7
  go_enter Tryz.func129, Tryz.ntmps129
  go_wp2_with fail
  refine region_start (S := (fun W => W.cell? ⟨w.heap.size, 0, none⟩ = some (.int .i64 k) ∧ W.cell? ⟨w.heap.size, 1, none⟩ = some (.int .i64 ix) ∧ IsRow W w.heap.size 12 ∧ rowOf W w.heap.size = #[.int .i64 k, .int .i64 ix, .int .i64 wo, .int .i64 li, .bool on, .int .i64 rw, .int .u32 rf, .int .u32 rt, .bool rd, .bool wr, .int .i64 rk, .bool lk])) 21 rfl #[false, false, false, false, false, false, false, false, false, false, false, false, false, false, false, false, false, false, false, false, false] rfl (by kernel_rfl) ?_
  refine region_s ?_ ?_
  · exact keep129 hcl rfl (by repeat (first | exact Below.refl _ _ | refine Below.drew ?_ | refine Below.alloc ?_ (by first | omega | (simp <;> omega)) _ | (refine Below.trans ?_ (Below.mono (by assumption) (by first | omega | (simp <;> omega)))))) rfl rfl
  intro hS
  refine region_take (i := 0) (oi := ⟨(some 3), (Op.fieldAddr 31 (Operand.tmp 1) 0), 0, _, _, none⟩) (v := ?_) #[true, false, false, false, false, false, false, false, false, false, false, false, false, false, false, false, false, false, false, false, false] rfl (by kernel_rfl) (by kernel_rfl) (by kernel_rfl) (fun _ _ _ h => h) hS ?_ rfl ?_
  rotate_left
  · refine Or.inl ⟨rfl, fun W hW => ?_⟩
    dsimp only at hW
    obtain ⟨hW0, hW1, hW2, hW3⟩ := hW
    go_simp
    try rfl
  try simp only [Act.put, List.setIfInBounds_toArray, List.set_cons_zero, List.set_cons_succ]
  refine region_take (i := 1) (oi := ⟨(some 4), (Op.load 25 (Operand.tmp 3)), 25, _, _, none⟩) (v := ?_) #[true, true, false, false, false, false, false, false, false, false, false, false, false, false, false, false, false, false, false, false, false] rfl (by kernel_rfl) (by kernel_rfl) (by kernel_rfl) (fun _ _ _ h => h) hS ?_ rfl ?_
  rotate_left
  · refine Or.inl ⟨rfl, fun W hW => ?_⟩
    dsimp only at hW
    obtain ⟨hW0, hW1, hW2, hW3⟩ := hW
    go_simp
    try rfl
  try simp only [Act.put, List.setIfInBounds_toArray, List.set_cons_zero, List.set_cons_succ]
  refine region_take (i := 2) (oi := ⟨(some 5), (Op.binOp BinOp.lss 25 (Operand.tmp 4) (Operand.const (Value.int IntKind.i64 1)) 25), 4, _, _, none⟩) (v := ?_) #[true, true, true, false, false, false, false, false, false, false, false, false, false, false, false, false, false, false, false, false, false] rfl (by kernel_rfl) (by kernel_rfl) (by kernel_rfl) (fun _ _ _ h => h) hS ?_ rfl ?_
  rotate_left
  · refine Or.inl ⟨rfl, fun W hW => ?_⟩
    dsimp only at hW
    obtain ⟨hW0, hW1, hW2, hW3⟩ := hW
    go_simp
    try rfl
  try simp only [Act.put, List.setIfInBounds_toArray, List.set_cons_zero, List.set_cons_succ]
  refine region_take (i := 3) (oi := ⟨(some 6), (Op.move (Operand.tmp 5)), 4, _, _, none⟩) (v := ?_) #[true, true, true, true, false, false, false, false, false, false, false, false, false, false, false, false, false, false, false, false, false] rfl (by kernel_rfl) (by kernel_rfl) (by kernel_rfl) (fun _ _ _ h => h) hS ?_ rfl ?_
  rotate_left
  · refine Or.inl ⟨rfl, fun W hW => ?_⟩
    dsimp only at hW
    obtain ⟨hW0, hW1, hW2, hW3⟩ := hW
    go_simp
    try rfl
  try simp only [Act.put, List.setIfInBounds_toArray, List.set_cons_zero, List.set_cons_succ]
  refine region_take (i := 4) (oi := ⟨(some 7), (Op.fieldAddr 31 (Operand.tmp 1) 0), 0, _, _, (some (3, false))⟩) (v := ?_) #[true, true, true, true, true, false, false, false, false, false, false, false, false, false, false, false, false, false, false, false, false] rfl (by kernel_rfl) (by kernel_rfl) (by kernel_rfl) (fun _ _ _ h => h) hS ?_ rfl ?_
  rotate_left
  · refine Or.inl ⟨rfl, fun W hW => ?_⟩
    dsimp only at hW
    obtain ⟨hW0, hW1, hW2, hW3⟩ := hW
    go_simp
    try rfl
  try simp only [Act.put, List.setIfInBounds_toArray, List.set_cons_zero, List.set_cons_succ]
  refine region_take (i := 5) (oi := ⟨(some 8), (Op.load 25 (Operand.tmp 7)), 25, _, _, (some (3, false))⟩) (v := ?_) #[true, true, true, true, true, true, false, false, false, false, false, false, false, false, false, false, false, false, false, false, false] rfl (by kernel_rfl) (by kernel_rfl) (by kernel_rfl) (fun _ _ _ h => h) hS ?_ rfl ?_
  rotate_left
  · refine Or.inl ⟨rfl, fun W hW => ?_⟩
    dsimp only at hW
    obtain ⟨hW0, hW1, hW2, hW3⟩ := hW
    go_simp
    try rfl
  try simp only [Act.put, List.setIfInBounds_toArray, List.set_cons_zero, List.set_cons_succ]
  refine region_take (i := 6) (oi := ⟨(some 9), (Op.binOp BinOp.gtr 25 (Operand.tmp 8) (Operand.const (Value.int IntKind.i64 7)) 25), 4, _, _, (some (3, false))⟩) (v := ?_) #[true, true, true, true, true, true, true, false, false, false, false, false, false, false, false, false, false, false, false, false, false] rfl (by kernel_rfl) (by kernel_rfl) (by kernel_rfl) (fun _ _ _ h => h) hS ?_ rfl ?_
  rotate_left
  · refine Or.inl ⟨rfl, fun W hW => ?_⟩
    dsimp only at hW
    obtain ⟨hW0, hW1, hW2, hW3⟩ := hW
    go_simp
    try rfl
  try simp only [Act.put, List.setIfInBounds_toArray, List.set_cons_zero, List.set_cons_succ]
  refine region_take (i := 7) (oi := ⟨(some 10), (Op.pick (Operand.tmp 6) (Operand.const (Value.bool true)) (Operand.tmp 9)), 4, _, _, none⟩) (v := ?_) #[true, true, true, true, true, true, true, true, false, false, false, false, false, false, false, false, false, false, false, false, false] rfl (by kernel_rfl) (by kernel_rfl) (by kernel_rfl) (fun _ _ _ h => h) hS ?_ rfl ?_
  rotate_left
  · refine Or.inl ⟨rfl, fun W hW => ?_⟩
    dsimp only at hW
    obtain ⟨hW0, hW1, hW2, hW3⟩ := hW
    go_simp
    try rfl
  try simp only [Act.put, List.setIfInBounds_toArray, List.set_cons_zero, List.set_cons_succ]
  refine region_take (i := 8) (oi := ⟨(some 11), (Op.move (Operand.tmp 10)), 4, _, _, none⟩) (v := ?_) #[true, true, true, true, true, true, true, true, true, false, false, false, false, false, false, false, false, false, false, false, false] rfl (by kernel_rfl) (by kernel_rfl) (by kernel_rfl) (fun _ _ _ h => h) hS ?_ rfl ?_
  rotate_left
  · refine Or.inl ⟨rfl, fun W hW => ?_⟩
    dsimp only at hW
    obtain ⟨hW0, hW1, hW2, hW3⟩ := hW
    go_simp
    try rfl
  try simp only [Act.put, List.setIfInBounds_toArray, List.set_cons_zero, List.set_cons_succ]
  refine region_take (i := 9) (oi := ⟨(some 12), (Op.load 31 (Operand.tmp 1)), 31, _, _, (some (8, false))⟩) (v := ?_) #[true, true, true, true, true, true, true, true, true, true, false, false, false, false, false, false, false, false, false, false, false] rfl (by kernel_rfl) (by kernel_rfl) (by kernel_rfl) (fun _ _ _ h => h) hS ?_ rfl ?_
  rotate_left
  · refine Or.inl ⟨rfl, fun W hW => ?_⟩
    dsimp only at hW
    obtain ⟨hW0, hW1, hW2, hW3⟩ := hW
    go_simp
    try rfl
  try simp only [Act.put, List.setIfInBounds_toArray, List.set_cons_zero, List.set_cons_succ]
  refine region_take (i := 10) (oi := ⟨(some 13), (Op.load 31 (Operand.tmp 1)), 31, _, _, (some (8, false))⟩) (v := ?_) #[true, true, true, true, true, true, true, true, true, true, true, false, false, false, false, false, false, false, false, false, false] rfl (by kernel_rfl) (by kernel_rfl) (by kernel_rfl) (fun _ _ _ h => h) hS ?_ rfl ?_
  rotate_left
  · refine Or.inl ⟨rfl, fun W hW => ?_⟩
    dsimp only at hW
    obtain ⟨hW0, hW1, hW2, hW3⟩ := hW
    go_simp
    try rfl
  try simp only [Act.put, List.setIfInBounds_toArray, List.set_cons_zero, List.set_cons_succ]
  refine region_op (i := 11) (oi := ⟨(some 14), (Op.call { callee := (Callee.value (Operand.func 215)), args := #[(Operand.tmp 13)], argTypes := #[31] }), 31, _, _, (some (8, false))⟩) #[true, true, true, true, true, true, true, true, true, true, true, true, false, false, false, false, false, false, false, false, false] rfl (by kernel_rfl) rfl rfl ?_
  intro K hK
  go_simp; refine (named_as _ _ _ _ _ _ _ _ _ _ _ _ n hn _).mono ?_; rintro e w1 ⟨rfl, hb⟩; have hz := hb.size; simp at hz
  refine hK _ _ ⟨?_, fun hS => ?_⟩
  · exact keep129 hcl rfl (by repeat (first | exact Below.refl _ _ | refine Below.drew ?_ | refine Below.alloc ?_ (by first | omega | (simp <;> omega)) _ | (refine Below.trans ?_ (Below.mono (by assumption) (by first | omega | (simp <;> omega)))))) rfl rfl
  try simp only [Act.put, List.setIfInBounds_toArray, List.set_cons_zero, List.set_cons_succ]
  refine region_take (i := 12) (oi := ⟨(some 15), (Op.binOp BinOp.neq 31 (Operand.tmp 12) (Operand.tmp 14) 31), 4, _, _, (some (8, false))⟩) (v := ?_) #[true, true, true, true, true, true, true, true, true, true, true, true, true, false, false, false, false, false, false, false, false] rfl (by kernel_rfl) (by kernel_rfl) (by kernel_rfl) (fun _ _ _ h => h) hS ?_ rfl ?_
  rotate_left
  · refine Or.inl ⟨rfl, fun W hW => ?_⟩
    dsimp only at hW
    obtain ⟨hW0, hW1, hW2, hW3⟩ := hW
    go_simp
    try rfl
  try simp only [Act.put, List.setIfInBounds_toArray, List.set_cons_zero, List.set_cons_succ]
  refine region_take (i := 13) (oi := ⟨(some 16), (Op.pick (Operand.tmp 11) (Operand.const (Value.bool true)) (Operand.tmp 15)), 4, _, _, none⟩) (v := ?_) #[true, true, true, true, true, true, true, true, true, true, true, true, true, true, false, false, false, false, false, false, false] rfl (by kernel_rfl) (by kernel_rfl) (by kernel_rfl) (fun _ _ _ h => h) hS ?_ rfl ?_
  rotate_left
  · refine Or.inl ⟨rfl, fun W hW => ?_⟩
    dsimp only at hW
    obtain ⟨hW0, hW1, hW2, hW3⟩ := hW
    go_simp
    try rfl
  try simp only [Act.put, List.setIfInBounds_toArray, List.set_cons_zero, List.set_cons_succ]
  refine region_take (i := 14) (oi := ⟨(some 17), (Op.move (Operand.tmp 16)), 4, _, _, none⟩) (v := ?_) #[true, true, true, true, true, true, true, true, true, true, true, true, true, true, true, false, false, false, false, false, false] rfl (by kernel_rfl) (by kernel_rfl) (by kernel_rfl) (fun _ _ _ h => h) hS ?_ rfl ?_
  rotate_left
  · refine Or.inl ⟨rfl, fun W hW => ?_⟩
    dsimp only at hW
    obtain ⟨hW0, hW1, hW2, hW3⟩ := hW
    go_simp
    try rfl
  try simp only [Act.put, List.setIfInBounds_toArray, List.set_cons_zero, List.set_cons_succ]
  refine region_take (i := 15) (oi := ⟨(some 18), (Op.fieldAddr 31 (Operand.tmp 1) 1), 0, _, _, (some (14, false))⟩) (v := ?_) #[true, true, true, true, true, true, true, true, true, true, true, true, true, true, true, true, false, false, false, false, false] rfl (by kernel_rfl) (by kernel_rfl) (by kernel_rfl) (fun _ _ _ h => h) hS ?_ rfl ?_
  rotate_left
  · refine Or.inl ⟨rfl, fun W hW => ?_⟩
    dsimp only at hW
    obtain ⟨hW0, hW1, hW2, hW3⟩ := hW
    go_simp
    try rfl
  try simp only [Act.put, List.setIfInBounds_toArray, List.set_cons_zero, List.set_cons_succ]
  refine region_take (i := 16) (oi := ⟨(some 19), (Op.load 3 (Operand.tmp 18)), 3, _, _, (some (14, false))⟩) (v := ?_) #[true, true, true, true, true, true, true, true, true, true, true, true, true, true, true, true, true, false, false, false, false] rfl (by kernel_rfl) (by kernel_rfl) (by kernel_rfl) (fun _ _ _ h => h) hS ?_ rfl ?_
  rotate_left
  · refine Or.inl ⟨rfl, fun W hW => ?_⟩
    dsimp only at hW
    obtain ⟨hW0, hW1, hW2, hW3⟩ := hW
    go_simp
    try rfl
  try simp only [Act.put, List.setIfInBounds_toArray, List.set_cons_zero, List.set_cons_succ]
  refine region_op (i := 17) (oi := ⟨(some 20), (Op.buildSlice 42 1 #[(0, (Operand.tmp 19))]), 42, _, _, (some (14, false))⟩) #[true, true, true, true, true, true, true, true, true, true, true, true, true, true, true, true, true, true, false, false, false] rfl (by kernel_rfl) rfl rfl ?_
  intro K hK
  go_simp
  refine hK _ _ ⟨?_, fun hS => ?_⟩
  · exact keep129 hcl rfl (by repeat (first | exact Below.refl _ _ | refine Below.drew ?_ | refine Below.alloc ?_ (by first | omega | (simp <;> omega)) _ | (refine Below.trans ?_ (Below.mono (by assumption) (by first | omega | (simp <;> omega)))))) rfl rfl
  try simp only [Act.put, List.setIfInBounds_toArray, List.set_cons_zero, List.set_cons_succ]
  refine region_op (i := 18) (oi := ⟨(some 21), (Op.call { callee := (Callee.value (Operand.func 216)), args := #[(Operand.const (Value.int IntKind.i64 999)), (Operand.tmp 20)], argTypes := #[3, 42] }), 4, _, _, (some (14, false))⟩) #[true, true, true, true, true, true, true, true, true, true, true, true, true, true, true, true, true, true, true, false, false] rfl (by kernel_rfl) rfl rfl ?_
  intro K hK
  go_simp; refine (within_any 999 ix _ _ _ (by simp) (by simp)).mono ?_; rintro e w2 ⟨rfl, hb2⟩; have hz2 := hb2.size; simp at hz2
  refine hK _ _ ⟨?_, fun hS => ?_⟩
  · exact keep129 hcl rfl (by repeat (first | exact Below.refl _ _ | refine Below.drew ?_ | refine Below.alloc ?_ (by first | omega | (simp <;> omega)) _ | (refine Below.trans ?_ (Below.mono (by assumption) (by first | omega | (simp <;> omega)))))) rfl rfl
  try simp only [Act.put, List.setIfInBounds_toArray, List.set_cons_zero, List.set_cons_succ]
  refine region_take (i := 19) (oi := ⟨(some 22), (Op.unOp UnOp.not 4 (Operand.tmp 21)), 4, _, _, (some (14, false))⟩) (v := ?_) #[true, true, true, true, true, true, true, true, true, true, true, true, true, true, true, true, true, true, true, true, false] rfl (by kernel_rfl) (by kernel_rfl) (by kernel_rfl) (fun _ _ _ h => h) hS ?_ rfl ?_
  rotate_left
  · refine Or.inl ⟨rfl, fun W hW => ?_⟩
    dsimp only at hW
    obtain ⟨hW0, hW1, hW2, hW3⟩ := hW
    go_simp
    try rfl
  try simp only [Act.put, List.setIfInBounds_toArray, List.set_cons_zero, List.set_cons_succ]
  refine region_take (i := 20) (oi := ⟨(some 23), (Op.pick (Operand.tmp 17) (Operand.const (Value.bool true)) (Operand.tmp 22)), 4, _, _, none⟩) (v := ?_) #[true, true, true, true, true, true, true, true, true, true, true, true, true, true, true, true, true, true, true, true, true] rfl (by kernel_rfl) (by kernel_rfl) (by kernel_rfl) (fun _ _ _ h => h) hS ?_ rfl ?_
  rotate_left
  · refine Or.inl ⟨rfl, fun W hW => ?_⟩
    dsimp only at hW
    obtain ⟨hW0, hW1, hW2, hW3⟩ := hW
    go_simp
    try rfl
  try simp only [Act.put, List.setIfInBounds_toArray, List.set_cons_zero, List.set_cons_succ]
  refine wpAnyH_done (by kernel_rfl) ?_ _
  have hB : Below (w.heap.size + 1) (w.alloc (.cells #[.int .i64 k, .int .i64 ix, .int .i64 wo, .int .i64 li, .bool on, .int .i64 rw, .int .u32 rf, .int .u32 rt, .bool rd, .bool wr, .int .i64 rk, .bool lk] 31)) w2 := (by repeat (first | exact Below.refl _ _ | refine Below.drew ?_ | refine Below.alloc ?_ (by first | omega | (simp <;> omega)) _ | (refine Below.trans ?_ (Below.mono (by assumption) (by first | omega | (simp <;> omega))))))
  have hr := (hB.block w.heap.size (by omega)).trans hcl
  have c0 : w2.cell? ⟨w.heap.size, 0, none⟩ = some (.int .i64 k) := by simp [World.cell?, hr]
  have c1 : w2.cell? ⟨w.heap.size, 1, none⟩ = some (.int .i64 ix) := by simp [World.cell?, hr]
  have c2 : w2.cell? ⟨w.heap.size, 2, none⟩ = some (.int .i64 wo) := by simp [World.cell?, hr]
  have c3 : w2.cell? ⟨w.heap.size, 3, none⟩ = some (.int .i64 li) := by simp [World.cell?, hr]
  have c4 : w2.cell? ⟨w.heap.size, 4, none⟩ = some (.bool on) := by simp [World.cell?, hr]
  have c5 : w2.cell? ⟨w.heap.size, 5, none⟩ = some (.int .i64 rw) := by simp [World.cell?, hr]
  have c6 : w2.cell? ⟨w.heap.size, 6, none⟩ = some (.int .u32 rf) := by simp [World.cell?, hr]
  have c7 : w2.cell? ⟨w.heap.size, 7, none⟩ = some (.int .u32 rt) := by simp [World.cell?, hr]
  have c8 : w2.cell? ⟨w.heap.size, 8, none⟩ = some (.bool rd) := by simp [World.cell?, hr]
  have c9 : w2.cell? ⟨w.heap.size, 9, none⟩ = some (.bool wr) := by simp [World.cell?, hr]
  have c10 : w2.cell? ⟨w.heap.size, 10, none⟩ = some (.int .i64 rk) := by simp [World.cell?, hr]
  have c11 : w2.cell? ⟨w.heap.size, 11, none⟩ = some (.bool lk) := by simp [World.cell?, hr]
  have hlt : w.heap.size < w2.heap.size := by have := hB.size; simp at this; omega
  clear hr hcl hc0 hc1 hS hB hne hn0 hn7
  go_wp2_with (first | (go_at_call 216; (with_reducible refine (within_any 99 rw _ _ _ ?_ ?_).mono ?_); (· simp; done); (· simp; done); rintro e w3 ⟨rfl, hb3⟩; have hz3 := hb3.size; simp at hz3; have hcc := below_cell hb3; have hlt3 : w.heap.size < w3.heap.size := by omega) | (go_at_call 216; (with_reducible refine (within_any 999 rk _ _ _ ?_ ?_).mono ?_); (· simp; done); (· simp; done); rintro e w3 ⟨rfl, hb3⟩; have hz3 := hb3.size; simp at hz3; have hcc := below_cell hb3; have hlt3 : w.heap.size < w3.heap.size := by omega) | (go_at_call 216; (with_reducible refine (within_any 99 wo _ _ _ ?_ ?_).mono ?_); (· simp; done); (· simp; done); rintro e w3 ⟨rfl, hb3⟩; have hz3 := hb3.size; simp at hz3; have hcc := below_cell hb3; have hlt3 : w.heap.size < w3.heap.size := by omega) | (go_at_call 216; (with_reducible refine (within_any 99 li _ _ _ ?_ ?_).mono ?_); (· simp; done); (· simp; done); rintro e w3 ⟨rfl, hb3⟩; have hz3 := hb3.size; simp at hz3; have hcc := below_cell hb3; have hlt3 : w.heap.size < w3.heap.size := by omega) | (go_at_call 216; (with_reducible refine (within_any 99 0 _ _ _ ?_ ?_).mono ?_); (· simp; done); (· simp; done); rintro e w3 ⟨rfl, hb3⟩; have hz3 := hb3.size; simp at hz3; have hcc := below_cell hb3; have hlt3 : w.heap.size < w3.heap.size := by omega))
  go_ret
  exact ⟨by first | rfl | (simp [*]; done) | (simp <;> omega), (by repeat (first | exact Below.refl _ _ | refine Below.drew ?_ | refine Below.alloc ?_ (by first | omega | (simp <;> omega)) _ | (refine Below.trans ?_ (Below.mono (by assumption) (by first | omega | (simp <;> omega))))))⟩
set_option maxRecDepth 100000 in
set_option maxHeartbeats 1000000 in
theorem right_liN (k ix wo li rw rf rt rk : Int) (on rd wr lk : Bool) (n : Cmd) (hn : Hid (cmdNamed ⟨k, ix, wo, li, ⟨on, rw, rf, rt, rd, wr, rk, lk⟩⟩ = n)) (w : World) (h0 : 1 ≤ k) (h7 : k ≤ 7) (hix : inB 999 ix = true) (hk : (k == 1) = false) (hwo : inB 99 wo = true) (hl0 : ¬ li < 0) (hli : inB 99 li = false) (hne : eqCmd ⟨k, ix, wo, li, ⟨on, rw, rf, rt, rd, wr, rk, lk⟩⟩ ⟨n.k, n.ix, n.wo, n.li, ⟨n.reg.on, n.reg.rw, n.reg.rf, n.reg.rt, n.reg.rd, n.reg.wr, n.reg.rk, n.reg.lk⟩⟩ = true) :
    Calls Tryz.prog 129 #[.agg #[.int .i64 k, .int .i64 ix, .int .i64 wo, .int .i64 li, .bool on, .int .i64 rw, .int .u32 rf, .int .u32 rt, .bool rd, .bool wr, .int .i64 rk, .bool lk]] w fun e w' => e = .returned (.bool (false)) ∧ Below w.heap.size w w' := by
  have hcl : (w.alloc (.cells #[.int .i64 k, .int .i64 ix, .int .i64 wo, .int .i64 li, .bool on, .int .i64 rw, .int .u32 rf, .int .u32 rt, .bool rd, .bool wr, .int .i64 rk, .bool lk] 31)).heap[w.heap.size]? = some (.cells #[.int .i64 k, .int .i64 ix, .int .i64 wo, .int .i64 li, .bool on, .int .i64 rw, .int .u32 rf, .int .u32 rt, .bool rd, .bool wr, .int .i64 rk, .bool lk] 31) := heap_alloc_new _ _
  have hc0 : (w.alloc (.cells #[.int .i64 k, .int .i64 ix, .int .i64 wo, .int .i64 li, .bool on, .int .i64 rw, .int .u32 rf, .int .u32 rt, .bool rd, .bool wr, .int .i64 rk, .bool lk] 31)).cell? ⟨w.heap.size, 0, none⟩ = some (.int .i64 k) := by simp
  have hc1 : (w.alloc (.cells #[.int .i64 k, .int .i64 ix, .int .i64 wo, .int .i64 li, .bool on, .int .i64 rw, .int .u32 rf, .int .u32 rt, .bool rd, .bool wr, .int .i64 rk, .bool lk] 31)).cell? ⟨w.heap.size, 1, none⟩ = some (.int .i64 ix) := by simp
  have hn0 : decide (k < 1) = false := by simp; omega
  have hn7 : decide (7 < k) = false := by simp; omega
  clear h0 h7
  go_enter Tryz.func129, Tryz.ntmps129
  go_wp2_with fail
  refine region_start (S := (fun W => W.cell? ⟨w.heap.size, 0, none⟩ = some (.int .i64 k) ∧ W.cell? ⟨w.heap.size, 1, none⟩ = some (.int .i64 ix) ∧ IsRow W w.heap.size 12 ∧ rowOf W w.heap.size = #[.int .i64 k, .int .i64 ix, .int .i64 wo, .int .i64 li, .bool on, .int .i64 rw, .int .u32 rf, .int .u32 rt, .bool rd, .bool wr, .int .i64 rk, .bool lk])) 21 rfl #[false, false, false, false, false, false, false, false, false, false, false, false, false, false, false, false, false, false, false, false, false] rfl (by kernel_rfl) ?_
  refine region_s ?_ ?_
  · exact keep129 hcl rfl (by repeat (first | exact Below.refl _ _ | refine Below.drew ?_ | refine Below.alloc ?_ (by first | omega | (simp <;> omega)) _ | (refine Below.trans ?_ (Below.mono (by assumption) (by first | omega | (simp <;> omega)))))) rfl rfl
  intro hS
  refine region_take (i := 0) (oi := ⟨(some 3), (Op.fieldAddr 31 (Operand.tmp 1) 0), 0, _, _, none⟩) (v := ?_) #[true, false, false, false, false, false, false, false, false, false, false, false, false, false, false, false, false, false, false, false, false] rfl (by kernel_rfl) (by kernel_rfl) (by kernel_rfl) (fun _ _ _ h => h) hS ?_ rfl ?_
  rotate_left
  · refine Or.inl ⟨rfl, fun W hW => ?_⟩
    dsimp only at hW
    obtain ⟨hW0, hW1, hW2, hW3⟩ := hW
    go_simp
    try rfl
  try simp only [Act.put, List.setIfInBounds_toArray, List.set_cons_zero, List.set_cons_succ]
  refine region_take (i := 1) (oi := ⟨(some 4), (Op.load 25 (Operand.tmp 3)), 25, _, _, none⟩) (v := ?_) #[true, true, false, false, false, false, false, false, false, false, false, false, false, false, false, false, false, false, false, false, false] rfl (by kernel_rfl) (by kernel_rfl) (by kernel_rfl) (fun _ _ _ h => h) hS ?_ rfl ?_
  rotate_left
  · refine Or.inl ⟨rfl, fun W hW => ?_⟩
    dsimp only at hW
    obtain ⟨hW0, hW1, hW2, hW3⟩ := hW
    go_simp
    try rfl
  try simp only [Act.put, List.setIfInBounds_toArray, List.set_cons_zero, List.set_cons_succ]
  refine region_take (i := 2) (oi := ⟨(some 5), (Op.binOp BinOp.lss 25 (Operand.tmp 4) (Operand.const (Value.int IntKind.i64 1)) 25), 4, _, _, none⟩) (v := ?_) #[true, true, true, false, false, false, false, false, false, false, false, false, false, false, false, false, false, false, false, false, false] rfl (by kernel_rfl) (by kernel_rfl) (by kernel_rfl) (fun _ _ _ h => h) hS ?_ rfl ?_
  rotate_left
  · refine Or.inl ⟨rfl, fun W hW => ?_⟩
    dsimp only at hW
    obtain ⟨hW0, hW1, hW2, hW3⟩ := hW
    go_simp
    try rfl
  try simp only [Act.put, List.setIfInBounds_toArray, List.set_cons_zero, List.set_cons_succ]
  refine region_take (i := 3) (oi := ⟨(some 6), (Op.move (Operand.tmp 5)), 4, _, _, none⟩) (v := ?_) #[true, true, true, true, false, false, false, false, false, false, false, false, false, false, false, false, false, false, false, false, false] rfl (by kernel_rfl) (by kernel_rfl) (by kernel_rfl) (fun _ _ _ h => h) hS ?_ rfl ?_
  rotate_left
  · refine Or.inl ⟨rfl, fun W hW => ?_⟩
    dsimp only at hW
    obtain ⟨hW0, hW1, hW2, hW3⟩ := hW
    go_simp
    try rfl
  try simp only [Act.put, List.setIfInBounds_toArray, List.set_cons_zero, List.set_cons_succ]
  refine region_take (i := 4) (oi := ⟨(some 7), (Op.fieldAddr 31 (Operand.tmp 1) 0), 0, _, _, (some (3, false))⟩) (v := ?_) #[true, true, true, true, true, false, false, false, false, false, false, false, false, false, false, false, false, false, false, false, false] rfl (by kernel_rfl) (by kernel_rfl) (by kernel_rfl) (fun _ _ _ h => h) hS ?_ rfl ?_
  rotate_left
  · refine Or.inl ⟨rfl, fun W hW => ?_⟩
    dsimp only at hW
    obtain ⟨hW0, hW1, hW2, hW3⟩ := hW
    go_simp
    try rfl
  try simp only [Act.put, List.setIfInBounds_toArray, List.set_cons_zero, List.set_cons_succ]
  refine region_take (i := 5) (oi := ⟨(some 8), (Op.load 25 (Operand.tmp 7)), 25, _, _, (some (3, false))⟩) (v := ?_) #[true, true, true, true, true, true, false, false, false, false, false, false, false, false, false, false, false, false, false, false, false] rfl (by kernel_rfl) (by kernel_rfl) (by kernel_rfl) (fun _ _ _ h => h) hS ?_ rfl ?_
  rotate_left
  · refine Or.inl ⟨rfl, fun W hW => ?_⟩
    dsimp only at hW
    obtain ⟨hW0, hW1, hW2, hW3⟩ := hW
    go_simp
    try rfl
  try simp only [Act.put, List.setIfInBounds_toArray, List.set_cons_zero, List.set_cons_succ]
  refine region_take (i := 6) (oi := ⟨(some 9), (Op.binOp BinOp.gtr 25 (Operand.tmp 8) (Operand.const (Value.int IntKind.i64 7)) 25), 4, _, _, (some (3, false))⟩) (v := ?_) #[true, true, true, true, true, true, true, false, false, false, false, false, false, false, false, false, false, false, false, false, false] rfl (by kernel_rfl) (by kernel_rfl) (by kernel_rfl) (fun _ _ _ h => h) hS ?_ rfl ?_
  rotate_left
  · refine Or.inl ⟨rfl, fun W hW => ?_⟩
    dsimp only at hW
    obtain ⟨hW0, hW1, hW2, hW3⟩ := hW
    go_simp
    try rfl
  try simp only [Act.put, List.setIfInBounds_toArray, List.set_cons_zero, List.set_cons_succ]
  refine region_take (i := 7) (oi := ⟨(some 10), (Op.pick (Operand.tmp 6) (Operand.const (Value.bool true)) (Operand.tmp 9)), 4, _, _, none⟩) (v := ?_) #[true, true, true, true, true, true, true, true, false, false, false, false, false, false, false, false, false, false, false, false, false] rfl (by kernel_rfl) (by kernel_rfl) (by kernel_rfl) (fun _ _ _ h => h) hS ?_ rfl ?_
  rotate_left
  · refine Or.inl ⟨rfl, fun W hW => ?_⟩
    dsimp only at hW
    obtain ⟨hW0, hW1, hW2, hW3⟩ := hW
    go_simp
    try rfl
  try simp only [Act.put, List.setIfInBounds_toArray, List.set_cons_zero, List.set_cons_succ]
  refine region_take (i := 8) (oi := ⟨(some 11), (Op.move (Operand.tmp 10)), 4, _, _, none⟩) (v := ?_) #[true, true, true, true, true, true, true, true, true, false, false, false, false, false, false, false, false, false, false, false, false] rfl (by kernel_rfl) (by kernel_rfl) (by kernel_rfl) (fun _ _ _ h => h) hS ?_ rfl ?_
  rotate_left
  · refine Or.inl ⟨rfl, fun W hW => ?_⟩
    dsimp only at hW
    obtain ⟨hW0, hW1, hW2, hW3⟩ := hW
    go_simp
    try rfl
  try simp only [Act.put, List.setIfInBounds_toArray, List.set_cons_zero, List.set_cons_succ]
  refine region_take (i := 9) (oi := ⟨(some 12), (Op.load 31 (Operand.tmp 1)), 31, _, _, (some (8, false))⟩) (v := ?_) #[true, true, true, true, true, true, true, true, true, true, false, false, false, false, false, false, false, false, false, false, false] rfl (by kernel_rfl) (by kernel_rfl) (by kernel_rfl) (fun _ _ _ h => h) hS ?_ rfl ?_
  rotate_left
  · refine Or.inl ⟨rfl, fun W hW => ?_⟩
    dsimp only at hW
    obtain ⟨hW0, hW1, hW2, hW3⟩ := hW
    go_simp
    try rfl
  try simp only [Act.put, List.setIfInBounds_toArray, List.set_cons_zero, List.set_cons_succ]
  refine region_take (i := 10) (oi := ⟨(some 13), (Op.load 31 (Operand.tmp 1)), 31, _, _, (some (8, false))⟩) (v := ?_) #[true, true, true, true, true, true, true, true, true, true, true, false, false, false, false, false, false, false, false, false, false] rfl (by kernel_rfl) (by kernel_rfl) (by kernel_rfl) (fun _ _ _ h => h) hS ?_ rfl ?_
  rotate_left
  · refine Or.inl ⟨rfl, fun W hW => ?_⟩
    dsimp only at hW
    obtain ⟨hW0, hW1, hW2, hW3⟩ := hW
    go_simp
    try rfl
  try simp only [Act.put, List.setIfInBounds_toArray, List.set_cons_zero, List.set_cons_succ]
  refine region_op (i := 11) (oi := ⟨(some 14), (Op.call { callee := (Callee.value (Operand.func 215)), args := #[(Operand.tmp 13)], argTypes := #[31] }), 31, _, _, (some (8, false))⟩) #[true, true, true, true, true, true, true, true, true, true, true, true, false, false, false, false, false, false, false, false, false] rfl (by kernel_rfl) rfl rfl ?_
  intro K hK
  go_simp; refine (named_as _ _ _ _ _ _ _ _ _ _ _ _ n hn _).mono ?_; rintro e w1 ⟨rfl, hb⟩; have hz := hb.size; simp at hz
  refine hK _ _ ⟨?_, fun hS => ?_⟩
  · exact keep129 hcl rfl (by repeat (first | exact Below.refl _ _ | refine Below.drew ?_ | refine Below.alloc ?_ (by first | omega | (simp <;> omega)) _ | (refine Below.trans ?_ (Below.mono (by assumption) (by first | omega | (simp <;> omega)))))) rfl rfl
  try simp only [Act.put, List.setIfInBounds_toArray, List.set_cons_zero, List.set_cons_succ]
  refine region_take (i := 12) (oi := ⟨(some 15), (Op.binOp BinOp.neq 31 (Operand.tmp 12) (Operand.tmp 14) 31), 4, _, _, (some (8, false))⟩) (v := ?_) #[true, true, true, true, true, true, true, true, true, true, true, true, true, false, false, false, false, false, false, false, false] rfl (by kernel_rfl) (by kernel_rfl) (by kernel_rfl) (fun _ _ _ h => h) hS ?_ rfl ?_
  rotate_left
  · refine Or.inl ⟨rfl, fun W hW => ?_⟩
    dsimp only at hW
    obtain ⟨hW0, hW1, hW2, hW3⟩ := hW
    go_simp
    try rfl
  try simp only [Act.put, List.setIfInBounds_toArray, List.set_cons_zero, List.set_cons_succ]
  refine region_take (i := 13) (oi := ⟨(some 16), (Op.pick (Operand.tmp 11) (Operand.const (Value.bool true)) (Operand.tmp 15)), 4, _, _, none⟩) (v := ?_) #[true, true, true, true, true, true, true, true, true, true, true, true, true, true, false, false, false, false, false, false, false] rfl (by kernel_rfl) (by kernel_rfl) (by kernel_rfl) (fun _ _ _ h => h) hS ?_ rfl ?_
  rotate_left
  · refine Or.inl ⟨rfl, fun W hW => ?_⟩
    dsimp only at hW
    obtain ⟨hW0, hW1, hW2, hW3⟩ := hW
    go_simp
    try rfl
  try simp only [Act.put, List.setIfInBounds_toArray, List.set_cons_zero, List.set_cons_succ]
  refine region_take (i := 14) (oi := ⟨(some 17), (Op.move (Operand.tmp 16)), 4, _, _, none⟩) (v := ?_) #[true, true, true, true, true, true, true, true, true, true, true, true, true, true, true, false, false, false, false, false, false] rfl (by kernel_rfl) (by kernel_rfl) (by kernel_rfl) (fun _ _ _ h => h) hS ?_ rfl ?_
  rotate_left
  · refine Or.inl ⟨rfl, fun W hW => ?_⟩
    dsimp only at hW
    obtain ⟨hW0, hW1, hW2, hW3⟩ := hW
    go_simp
    try rfl
  try simp only [Act.put, List.setIfInBounds_toArray, List.set_cons_zero, List.set_cons_succ]
  refine region_take (i := 15) (oi := ⟨(some 18), (Op.fieldAddr 31 (Operand.tmp 1) 1), 0, _, _, (some (14, false))⟩) (v := ?_) #[true, true, true, true, true, true, true, true, true, true, true, true, true, true, true, true, false, false, false, false, false] rfl (by kernel_rfl) (by kernel_rfl) (by kernel_rfl) (fun _ _ _ h => h) hS ?_ rfl ?_
  rotate_left
  · refine Or.inl ⟨rfl, fun W hW => ?_⟩
    dsimp only at hW
    obtain ⟨hW0, hW1, hW2, hW3⟩ := hW
    go_simp
    try rfl
  try simp only [Act.put, List.setIfInBounds_toArray, List.set_cons_zero, List.set_cons_succ]
  refine region_take (i := 16) (oi := ⟨(some 19), (Op.load 3 (Operand.tmp 18)), 3, _, _, (some (14, false))⟩) (v := ?_) #[true, true, true, true, true, true, true, true, true, true, true, true, true, true, true, true, true, false, false, false, false] rfl (by kernel_rfl) (by kernel_rfl) (by kernel_rfl) (fun _ _ _ h => h) hS ?_ rfl ?_
  rotate_left
  · refine Or.inl ⟨rfl, fun W hW => ?_⟩
    dsimp only at hW
    obtain ⟨hW0, hW1, hW2, hW3⟩ := hW
    go_simp
    try rfl
  try simp only [Act.put, List.setIfInBounds_toArray, List.set_cons_zero, List.set_cons_succ]
  refine region_op (i := 17) (oi := ⟨(some 20), (Op.buildSlice 42 1 #[(0, (Operand.tmp 19))]), 42, _, _, (some (14, false))⟩) #[true, true, true, true, true, true, true, true, true, true, true, true, true, true, true, true, true, true, false, false, false] rfl (by kernel_rfl) rfl rfl ?_
  intro K hK
  go_simp
  refine hK _ _ ⟨?_, fun hS => ?_⟩
  · exact keep129 hcl rfl (by repeat (first | exact Below.refl _ _ | refine Below.drew ?_ | refine Below.alloc ?_ (by first | omega | (simp <;> omega)) _ | (refine Below.trans ?_ (Below.mono (by assumption) (by first | omega | (simp <;> omega)))))) rfl rfl
  try simp only [Act.put, List.setIfInBounds_toArray, List.set_cons_zero, List.set_cons_succ]
  refine region_op (i := 18) (oi := ⟨(some 21), (Op.call { callee := (Callee.value (Operand.func 216)), args := #[(Operand.const (Value.int IntKind.i64 999)), (Operand.tmp 20)], argTypes := #[3, 42] }), 4, _, _, (some (14, false))⟩) #[true, true, true, true, true, true, true, true, true, true, true, true, true, true, true, true, true, true, true, false, false] rfl (by kernel_rfl) rfl rfl ?_
  intro K hK
  go_simp; refine (within_any 999 ix _ _ _ (by simp) (by simp)).mono ?_; rintro e w2 ⟨rfl, hb2⟩; have hz2 := hb2.size; simp at hz2
  refine hK _ _ ⟨?_, fun hS => ?_⟩
  · exact keep129 hcl rfl (by repeat (first | exact Below.refl _ _ | refine Below.drew ?_ | refine Below.alloc ?_ (by first | omega | (simp <;> omega)) _ | (refine Below.trans ?_ (Below.mono (by assumption) (by first | omega | (simp <;> omega)))))) rfl rfl
  try simp only [Act.put, List.setIfInBounds_toArray, List.set_cons_zero, List.set_cons_succ]
  refine region_take (i := 19) (oi := ⟨(some 22), (Op.unOp UnOp.not 4 (Operand.tmp 21)), 4, _, _, (some (14, false))⟩) (v := ?_) #[true, true, true, true, true, true, true, true, true, true, true, true, true, true, true, true, true, true, true, true, false] rfl (by kernel_rfl) (by kernel_rfl) (by kernel_rfl) (fun _ _ _ h => h) hS ?_ rfl ?_
  rotate_left
  · refine Or.inl ⟨rfl, fun W hW => ?_⟩
    dsimp only at hW
    obtain ⟨hW0, hW1, hW2, hW3⟩ := hW
    go_simp
    try rfl
  try simp only [Act.put, List.setIfInBounds_toArray, List.set_cons_zero, List.set_cons_succ]
  refine region_take (i := 20) (oi := ⟨(some 23), (Op.pick (Operand.tmp 17) (Operand.const (Value.bool true)) (Operand.tmp 22)), 4, _, _, none⟩) (v := ?_) #[true, true, true, true, true, true, true, true, true, true, true, true, true, true, true, true, true, true, true, true, true] rfl (by kernel_rfl) (by kernel_rfl) (by kernel_rfl) (fun _ _ _ h => h) hS ?_ rfl ?_
  rotate_left
  · refine Or.inl ⟨rfl, fun W hW => ?_⟩
    dsimp only at hW
    obtain ⟨hW0, hW1, hW2, hW3⟩ := hW
    go_simp
    try rfl
  try simp only [Act.put, List.setIfInBounds_toArray, List.set_cons_zero, List.set_cons_succ]
  refine wpAnyH_done (by kernel_rfl) ?_ _
  have hB : Below (w.heap.size + 1) (w.alloc (.cells #[.int .i64 k, .int .i64 ix, .int .i64 wo, .int .i64 li, .bool on, .int .i64 rw, .int .u32 rf, .int .u32 rt, .bool rd, .bool wr, .int .i64 rk, .bool lk] 31)) w2 := (by repeat (first | exact Below.refl _ _ | refine Below.drew ?_ | refine Below.alloc ?_ (by first | omega | (simp <;> omega)) _ | (refine Below.trans ?_ (Below.mono (by assumption) (by first | omega | (simp <;> omega))))))
  have hr := (hB.block w.heap.size (by omega)).trans hcl
  have c0 : w2.cell? ⟨w.heap.size, 0, none⟩ = some (.int .i64 k) := by simp [World.cell?, hr]
  have c1 : w2.cell? ⟨w.heap.size, 1, none⟩ = some (.int .i64 ix) := by simp [World.cell?, hr]
  have c2 : w2.cell? ⟨w.heap.size, 2, none⟩ = some (.int .i64 wo) := by simp [World.cell?, hr]
  have c3 : w2.cell? ⟨w.heap.size, 3, none⟩ = some (.int .i64 li) := by simp [World.cell?, hr]
  have c4 : w2.cell? ⟨w.heap.size, 4, none⟩ = some (.bool on) := by simp [World.cell?, hr]
  have c5 : w2.cell? ⟨w.heap.size, 5, none⟩ = some (.int .i64 rw) := by simp [World.cell?, hr]
  have c6 : w2.cell? ⟨w.heap.size, 6, none⟩ = some (.int .u32 rf) := by simp [World.cell?, hr]
  have c7 : w2.cell? ⟨w.heap.size, 7, none⟩ = some (.int .u32 rt) := by simp [World.cell?, hr]
  have c8 : w2.cell? ⟨w.heap.size, 8, none⟩ = some (.bool rd) := by simp [World.cell?, hr]
  have c9 : w2.cell? ⟨w.heap.size, 9, none⟩ = some (.bool wr) := by simp [World.cell?, hr]
  have c10 : w2.cell? ⟨w.heap.size, 10, none⟩ = some (.int .i64 rk) := by simp [World.cell?, hr]
  have c11 : w2.cell? ⟨w.heap.size, 11, none⟩ = some (.bool lk) := by simp [World.cell?, hr]
  have hlt : w.heap.size < w2.heap.size := by have := hB.size; simp at this; omega
  clear hr hcl hc0 hc1 hS hB hne hn0 hn7
  go_wp2_with (first | (go_at_call 216; (with_reducible refine (within_any 99 rw _ _ _ ?_ ?_).mono ?_); (· simp; done); (· simp; done); rintro e w3 ⟨rfl, hb3⟩; have hz3 := hb3.size; simp at hz3; have hcc := below_cell hb3; have hlt3 : w.heap.size < w3.heap.size := by omega) | (go_at_call 216; (with_reducible refine (within_any 999 rk _ _ _ ?_ ?_).mono ?_); (· simp; done); (· simp; done); rintro e w3 ⟨rfl, hb3⟩; have hz3 := hb3.size; simp at hz3; have hcc := below_cell hb3; have hlt3 : w.heap.size < w3.heap.size := by omega) | (go_at_call 216; (with_reducible refine (within_any 99 wo _ _ _ ?_ ?_).mono ?_); (· simp; done); (· simp; done); rintro e w3 ⟨rfl, hb3⟩; have hz3 := hb3.size; simp at hz3; have hcc := below_cell hb3; have hlt3 : w.heap.size < w3.heap.size := by omega) | (go_at_call 216; (with_reducible refine (within_any 99 li _ _ _ ?_ ?_).mono ?_); (· simp; done); (· simp; done); rintro e w3 ⟨rfl, hb3⟩; have hz3 := hb3.size; simp at hz3; have hcc := below_cell hb3; have hlt3 : w.heap.size < w3.heap.size := by omega) | (go_at_call 216; (with_reducible refine (within_any 99 0 _ _ _ ?_ ?_).mono ?_); (· simp; done); (· simp; done); rintro e w3 ⟨rfl, hb3⟩; have hz3 := hb3.size; simp at hz3; have hcc := below_cell hb3; have hlt3 : w.heap.size < w3.heap.size := by omega))
  go_ret
  exact ⟨by first | rfl | (simp [*]; done) | (simp <;> omega), (by repeat (first | exact Below.refl _ _ | refine Below.drew ?_ | refine Below.alloc ?_ (by first | omega | (simp <;> omega)) _ | (refine Below.trans ?_ (Below.mono (by assumption) (by first | omega | (simp <;> omega))))))⟩
set_option maxRecDepth 100000 in
set_option maxHeartbeats 1000000 in
theorem right_okP (k ix wo li rw rf rt rk : Int) (on rd wr lk : Bool) (n : Cmd) (hn : Hid (cmdNamed ⟨k, ix, wo, li, ⟨on, rw, rf, rt, rd, wr, rk, lk⟩⟩ = n)) (w : World) (h0 : 1 ≤ k) (h7 : k ≤ 7) (hix : inB 999 ix = true) (hk : (k == 1) = false) (hwo : inB 99 wo = true) (hl0 : ¬ li < 0) (hl1 : -1 ≤ li) (hli : inB 99 li = true) (hne : eqCmd ⟨k, ix, wo, li, ⟨on, rw, rf, rt, rd, wr, rk, lk⟩⟩ ⟨n.k, n.ix, n.wo, n.li, ⟨n.reg.on, n.reg.rw, n.reg.rf, n.reg.rt, n.reg.rd, n.reg.wr, n.reg.rk, n.reg.lk⟩⟩ = true) :
    Calls Tryz.prog 129 #[.agg #[.int .i64 k, .int .i64 ix, .int .i64 wo, .int .i64 li, .bool on, .int .i64 rw, .int .u32 rf, .int .u32 rt, .bool rd, .bool wr, .int .i64 rk, .bool lk]] w fun e w' => e = .returned (.bool (true)) ∧ Below w.heap.size w w' := by
  have hcl : (w.alloc (.cells #[.int .i64 k, .int .i64 ix, .int .i64 wo, .int .i64 li, .bool on, .int .i64 rw, .int .u32 rf, .int .u32 rt, .bool rd, .bool wr, .int .i64 rk, .bool lk] 31)).heap[w.heap.size]? = some (.cells #[.int .i64 k, .int .i64 ix, .int .i64 wo, .int .i64 li, .bool on, .int .i64 rw, .int .u32 rf, .int .u32 rt, .bool rd, .bool wr, .int .i64 rk, .bool lk] 31) := heap_alloc_new _ _
  have hc0 : (w.alloc (.cells #[.int .i64 k, .int .i64 ix, .int .i64 wo, .int .i64 li, .bool on, .int .i64 rw, .int .u32 rf, .int .u32 rt, .bool rd, .bool wr, .int .i64 rk, .bool lk] 31)).cell? ⟨w.heap.size, 0, none⟩ = some (.int .i64 k) := by simp
  have hc1 : (w.alloc (.cells #[.int .i64 k, .int .i64 ix, .int .i64 wo, .int .i64 li, .bool on, .int .i64 rw, .int .u32 rf, .int .u32 rt, .bool rd, .bool wr, .int .i64 rk, .bool lk] 31)).cell? ⟨w.heap.size, 1, none⟩ = some (.int .i64 ix) := by simp
  have hn0 : decide (k < 1) = false := by simp; omega
  have hn7 : decide (7 < k) = false := by simp; omega
  clear h0 h7
  go_enter Tryz.func129, Tryz.ntmps129
  go_wp2_with fail
  refine region_start (S := (fun W => W.cell? ⟨w.heap.size, 0, none⟩ = some (.int .i64 k) ∧ W.cell? ⟨w.heap.size, 1, none⟩ = some (.int .i64 ix) ∧ IsRow W w.heap.size 12 ∧ rowOf W w.heap.size = #[.int .i64 k, .int .i64 ix, .int .i64 wo, .int .i64 li, .bool on, .int .i64 rw, .int .u32 rf, .int .u32 rt, .bool rd, .bool wr, .int .i64 rk, .bool lk])) 21 rfl #[false, false, false, false, false, false, false, false, false, false, false, false, false, false, false, false, false, false, false, false, false] rfl (by kernel_rfl) ?_
  refine region_s ?_ ?_
  · exact keep129 hcl rfl (by repeat (first | exact Below.refl _ _ | refine Below.drew ?_ | refine Below.alloc ?_ (by first | omega | (simp <;> omega)) _ | (refine Below.trans ?_ (Below.mono (by assumption) (by first | omega | (simp <;> omega)))))) rfl rfl
  intro hS
  refine region_take (i := 0) (oi := ⟨(some 3), (Op.fieldAddr 31 (Operand.tmp 1) 0), 0, _, _, none⟩) (v := ?_) #[true, false, false, false, false, false, false, false, false, false, false, false, false, false, false, false, false, false, false, false, false] rfl (by kernel_rfl) (by kernel_rfl) (by kernel_rfl) (fun _ _ _ h => h) hS ?_ rfl ?_
  rotate_left
  · refine Or.inl ⟨rfl, fun W hW => ?_⟩
    dsimp only at hW
    obtain ⟨hW0, hW1, hW2, hW3⟩ := hW
    go_simp
    try rfl
  try simp only [Act.put, List.setIfInBounds_toArray, List.set_cons_zero, List.set_cons_succ]
  refine region_take (i := 1) (oi := ⟨(some 4), (Op.load 25 (Operand.tmp 3)), 25, _, _, none⟩) (v := ?_) #[true, true, false, false, false, false, false, false, false, false, false, false, false, false, false, false, false, false, false, false, false] rfl (by kernel_rfl) (by kernel_rfl) (by kernel_rfl) (fun _ _ _ h => h) hS ?_ rfl ?_
  rotate_left
  · refine Or.inl ⟨rfl, fun W hW => ?_⟩
    dsimp only at hW
    obtain ⟨hW0, hW1, hW2, hW3⟩ := hW
    go_simp
    try rfl
  try simp only [Act.put, List.setIfInBounds_toArray, List.set_cons_zero, List.set_cons_succ]
  refine region_take (i := 2) (oi := ⟨(some 5), (Op.binOp BinOp.lss 25 (Operand.tmp 4) (Operand.const (Value.int IntKind.i64 1)) 25), 4, _, _, none⟩) (v := ?_) #[true, true, true, false, false, false, false, false, false, false, false, false, false, false, false, false, false, false, false, false, false] rfl (by kernel_rfl) (by kernel_rfl) (by kernel_rfl) (fun _ _ _ h => h) hS ?_ rfl ?_
  rotate_left
  · refine Or.inl ⟨rfl, fun W hW => ?_⟩
    dsimp only at hW
    obtain ⟨hW0, hW1, hW2, hW3⟩ := hW
    go_simp
    try rfl
  try simp only [Act.put, List.setIfInBounds_toArray, List.set_cons_zero, List.set_cons_succ]
  refine region_take (i := 3) (oi := ⟨(some 6), (Op.move (Operand.tmp 5)), 4, _, _, none⟩) (v := ?_) #[true, true, true, true, false, false, false, false, false, false, false, false, false, false, false, false, false, false, false, false, false] rfl (by kernel_rfl) (by kernel_rfl) (by kernel_rfl) (fun _ _ _ h => h) hS ?_ rfl ?_
  rotate_left
  · refine Or.inl ⟨rfl, fun W hW => ?_⟩
    dsimp only at hW
    obtain ⟨hW0, hW1, hW2, hW3⟩ := hW
    go_simp
    try rfl
  try simp only [Act.put, List.setIfInBounds_toArray, List.set_cons_zero, List.set_cons_succ]
  refine region_take (i := 4) (oi := ⟨(some 7), (Op.fieldAddr 31 (Operand.tmp 1) 0), 0, _, _, (some (3, false))⟩) (v := ?_) #[true, true, true, true, true, false, false, false, false, false, false, false, false, false, false, false, false, false, false, false, false] rfl (by kernel_rfl) (by kernel_rfl) (by kernel_rfl) (fun _ _ _ h => h) hS ?_ rfl ?_
  rotate_left
  · refine Or.inl ⟨rfl, fun W hW => ?_⟩
    dsimp only at hW
    obtain ⟨hW0, hW1, hW2, hW3⟩ := hW
    go_simp
    try rfl
  try simp only [Act.put, List.setIfInBounds_toArray, List.set_cons_zero, List.set_cons_succ]
  refine region_take (i := 5) (oi := ⟨(some 8), (Op.load 25 (Operand.tmp 7)), 25, _, _, (some (3, false))⟩) (v := ?_) #[true, true, true, true, true, true, false, false, false, false, false, false, false, false, false, false, false, false, false, false, false] rfl (by kernel_rfl) (by kernel_rfl) (by kernel_rfl) (fun _ _ _ h => h) hS ?_ rfl ?_
  rotate_left
  · refine Or.inl ⟨rfl, fun W hW => ?_⟩
    dsimp only at hW
    obtain ⟨hW0, hW1, hW2, hW3⟩ := hW
    go_simp
    try rfl
  try simp only [Act.put, List.setIfInBounds_toArray, List.set_cons_zero, List.set_cons_succ]
  refine region_take (i := 6) (oi := ⟨(some 9), (Op.binOp BinOp.gtr 25 (Operand.tmp 8) (Operand.const (Value.int IntKind.i64 7)) 25), 4, _, _, (some (3, false))⟩) (v := ?_) #[true, true, true, true, true, true, true, false, false, false, false, false, false, false, false, false, false, false, false, false, false] rfl (by kernel_rfl) (by kernel_rfl) (by kernel_rfl) (fun _ _ _ h => h) hS ?_ rfl ?_
  rotate_left
  · refine Or.inl ⟨rfl, fun W hW => ?_⟩
    dsimp only at hW
    obtain ⟨hW0, hW1, hW2, hW3⟩ := hW
    go_simp
    try rfl
  try simp only [Act.put, List.setIfInBounds_toArray, List.set_cons_zero, List.set_cons_succ]
  refine region_take (i := 7) (oi := ⟨(some 10), (Op.pick (Operand.tmp 6) (Operand.const (Value.bool true)) (Operand.tmp 9)), 4, _, _, none⟩) (v := ?_) #[true, true, true, true, true, true, true, true, false, false, false, false, false, false, false, false, false, false, false, false, false] rfl (by kernel_rfl) (by kernel_rfl) (by kernel_rfl) (fun _ _ _ h => h) hS ?_ rfl ?_
  rotate_left
  · refine Or.inl ⟨rfl, fun W hW => ?_⟩
    dsimp only at hW
    obtain ⟨hW0, hW1, hW2, hW3⟩ := hW
    go_simp
    try rfl
  try simp only [Act.put, List.setIfInBounds_toArray, List.set_cons_zero, List.set_cons_succ]
  refine region_take (i := 8) (oi := ⟨(some 11), (Op.move (Operand.tmp 10)), 4, _, _, none⟩) (v := ?_) #[true, true, true, true, true, true, true, true, true, false, false, false, false, false, false, false, false, false, false, false, false] rfl (by kernel_rfl) (by kernel_rfl) (by kernel_rfl) (fun _ _ _ h => h) hS ?_ rfl ?_
  rotate_left
  · refine Or.inl ⟨rfl, fun W hW => ?_⟩
    dsimp only at hW
    obtain ⟨hW0, hW1, hW2, hW3⟩ := hW
    go_simp
    try rfl
  try simp only [Act.put, List.setIfInBounds_toArray, List.set_cons_zero, List.set_cons_succ]
  refine region_take (i := 9) (oi := ⟨(some 12), (Op.load 31 (Operand.tmp 1)), 31, _, _, (some (8, false))⟩) (v := ?_) #[true, true, true, true, true, true, true, true, true, true, false, false, false, false, false, false, false, false, false, false, false] rfl (by kernel_rfl) (by kernel_rfl) (by kernel_rfl) (fun _ _ _ h => h) hS ?_ rfl ?_
  rotate_left
  · refine Or.inl ⟨rfl, fun W hW => ?_⟩
    dsimp only at hW
    obtain ⟨hW0, hW1, hW2, hW3⟩ := hW
    go_simp
    try rfl
  try simp only [Act.put, List.setIfInBounds_toArray, List.set_cons_zero, List.set_cons_succ]
  refine region_take (i := 10) (oi := ⟨(some 13), (Op.load 31 (Operand.tmp 1)), 31, _, _, (some (8, false))⟩) (v := ?_) #[true, true, true, true, true, true, true, true, true, true, true, false, false, false, false, false, false, false, false, false, false] rfl (by kernel_rfl) (by kernel_rfl) (by kernel_rfl) (fun _ _ _ h => h) hS ?_ rfl ?_
  rotate_left
  · refine Or.inl ⟨rfl, fun W hW => ?_⟩
    dsimp only at hW
    obtain ⟨hW0, hW1, hW2, hW3⟩ := hW
    go_simp
    try rfl
  try simp only [Act.put, List.setIfInBounds_toArray, List.set_cons_zero, List.set_cons_succ]
  refine region_op (i := 11) (oi := ⟨(some 14), (Op.call { callee := (Callee.value (Operand.func 215)), args := #[(Operand.tmp 13)], argTypes := #[31] }), 31, _, _, (some (8, false))⟩) #[true, true, true, true, true, true, true, true, true, true, true, true, false, false, false, false, false, false, false, false, false] rfl (by kernel_rfl) rfl rfl ?_
  intro K hK
  go_simp; refine (named_as _ _ _ _ _ _ _ _ _ _ _ _ n hn _).mono ?_; rintro e w1 ⟨rfl, hb⟩; have hz := hb.size; simp at hz
  refine hK _ _ ⟨?_, fun hS => ?_⟩
  · exact keep129 hcl rfl (by repeat (first | exact Below.refl _ _ | refine Below.drew ?_ | refine Below.alloc ?_ (by first | omega | (simp <;> omega)) _ | (refine Below.trans ?_ (Below.mono (by assumption) (by first | omega | (simp <;> omega)))))) rfl rfl
  try simp only [Act.put, List.setIfInBounds_toArray, List.set_cons_zero, List.set_cons_succ]
  refine region_take (i := 12) (oi := ⟨(some 15), (Op.binOp BinOp.neq 31 (Operand.tmp 12) (Operand.tmp 14) 31), 4, _, _, (some (8, false))⟩) (v := ?_) #[true, true, true, true, true, true, true, true, true, true, true, true, true, false, false, false, false, false, false, false, false] rfl (by kernel_rfl) (by kernel_rfl) (by kernel_rfl) (fun _ _ _ h => h) hS ?_ rfl ?_
  rotate_left
  · refine Or.inl ⟨rfl, fun W hW => ?_⟩
    dsimp only at hW
    obtain ⟨hW0, hW1, hW2, hW3⟩ := hW
    go_simp
    try rfl
  try simp only [Act.put, List.setIfInBounds_toArray, List.set_cons_zero, List.set_cons_succ]
  refine region_take (i := 13) (oi := ⟨(some 16), (Op.pick (Operand.tmp 11) (Operand.const (Value.bool true)) (Operand.tmp 15)), 4, _, _, none⟩) (v := ?_) #[true, true, true, true, true, true, true, true, true, true, true, true, true, true, false, false, false, false, false, false, false] rfl (by kernel_rfl) (by kernel_rfl) (by kernel_rfl) (fun _ _ _ h => h) hS ?_ rfl ?_
  rotate_left
  · refine Or.inl ⟨rfl, fun W hW => ?_⟩
    dsimp only at hW
    obtain ⟨hW0, hW1, hW2, hW3⟩ := hW
    go_simp
    try rfl
  try simp only [Act.put, List.setIfInBounds_toArray, List.set_cons_zero, List.set_cons_succ]
  refine region_take (i := 14) (oi := ⟨(some 17), (Op.move (Operand.tmp 16)), 4, _, _, none⟩) (v := ?_) #[true, true, true, true, true, true, true, true, true, true, true, true, true, true, true, false, false, false, false, false, false] rfl (by kernel_rfl) (by kernel_rfl) (by kernel_rfl) (fun _ _ _ h => h) hS ?_ rfl ?_
  rotate_left
  · refine Or.inl ⟨rfl, fun W hW => ?_⟩
    dsimp only at hW
    obtain ⟨hW0, hW1, hW2, hW3⟩ := hW
    go_simp
    try rfl
  try simp only [Act.put, List.setIfInBounds_toArray, List.set_cons_zero, List.set_cons_succ]
  refine region_take (i := 15) (oi := ⟨(some 18), (Op.fieldAddr 31 (Operand.tmp 1) 1), 0, _, _, (some (14, false))⟩) (v := ?_) #[true, true, true, true, true, true, true, true, true, true, true, true, true, true, true, true, false, false, false, false, false] rfl (by kernel_rfl) (by kernel_rfl) (by kernel_rfl) (fun _ _ _ h => h) hS ?_ rfl ?_
  rotate_left
  · refine Or.inl ⟨rfl, fun W hW => ?_⟩
    dsimp only at hW
    obtain ⟨hW0, hW1, hW2, hW3⟩ := hW
    go_simp
    try rfl
  try simp only [Act.put, List.setIfInBounds_toArray, List.set_cons_zero, List.set_cons_succ]
  refine region_take (i := 16) (oi := ⟨(some 19), (Op.load 3 (Operand.tmp 18)), 3, _, _, (some (14, false))⟩) (v := ?_) #[true, true, true, true, true, true, true, true, true, true, true, true, true, true, true, true, true, false, false, false, false] rfl (by kernel_rfl) (by kernel_rfl) (by kernel_rfl) (fun _ _ _ h => h) hS ?_ rfl ?_
  rotate_left
  · refine Or.inl ⟨rfl, fun W hW => ?_⟩
    dsimp only at hW
    obtain ⟨hW0, hW1, hW2, hW3⟩ := hW
    go_simp
    try rfl
  try simp only [Act.put, List.setIfInBounds_toArray, List.set_cons_zero, List.set_cons_succ]
  refine region_op (i := 17) (oi := ⟨(some 20), (Op.buildSlice 42 1 #[(0, (Operand.tmp 19))]), 42, _, _, (some (14, false))⟩) #[true, true, true, true, true, true, true, true, true, true, true, true, true, true, true, true, true, true, false, false, false] rfl (by kernel_rfl) rfl rfl ?_
  intro K hK
  go_simp
  refine hK _ _ ⟨?_, fun hS => ?_⟩
  · exact keep129 hcl rfl (by repeat (first | exact Below.refl _ _ | refine Below.drew ?_ | refine Below.alloc ?_ (by first | omega | (simp <;> omega)) _ | (refine Below.trans ?_ (Below.mono (by assumption) (by first | omega | (simp <;> omega)))))) rfl rfl
  try simp only [Act.put, List.setIfInBounds_toArray, List.set_cons_zero, List.set_cons_succ]
  refine region_op (i := 18) (oi := ⟨(some 21), (Op.call { callee := (Callee.value (Operand.func 216)), args := #[(Operand.const (Value.int IntKind.i64 999)), (Operand.tmp 20)], argTypes := #[3, 42] }), 4, _, _, (some (14, false))⟩) #[true, true, true, true, true, true, true, true, true, true, true, true, true, true, true, true, true, true, true, false, false] rfl (by kernel_rfl) rfl rfl ?_
  intro K hK
  go_simp; refine (within_any 999 ix _ _ _ (by simp) (by simp)).mono ?_; rintro e w2 ⟨rfl, hb2⟩; have hz2 := hb2.size; simp at hz2
  refine hK _ _ ⟨?_, fun hS => ?_⟩
  · exact keep129 hcl rfl (by repeat (first | exact Below.refl _ _ | refine Below.drew ?_ | refine Below.alloc ?_ (by first | omega | (simp <;> omega)) _ | (refine Below.trans ?_ (Below.mono (by assumption) (by first | omega | (simp <;> omega)))))) rfl rfl
  try simp only [Act.put, List.setIfInBounds_toArray, List.set_cons_zero, List.set_cons_succ]
  refine region_take (i := 19) (oi := ⟨(some 22), (Op.unOp UnOp.not 4 (Operand.tmp 21)), 4, _, _, (some (14, false))⟩) (v := ?_) #[true, true, true, true, true, true, true, true, true, true, true, true, true, true, true, true, true, true, true, true, false] rfl (by kernel_rfl) (by kernel_rfl) (by kernel_rfl) (fun _ _ _ h => h) hS ?_ rfl ?_
  rotate_left
  · refine Or.inl ⟨rfl, fun W hW => ?_⟩
    dsimp only at hW
    obtain ⟨hW0, hW1, hW2, hW3⟩ := hW
    go_simp
    try rfl
  try simp only [Act.put, List.setIfInBounds_toArray, List.set_cons_zero, List.set_cons_succ]
  refine region_take (i := 20) (oi := ⟨(some 23), (Op.pick (Operand.tmp 17) (Operand.const (Value.bool true)) (Operand.tmp 22)), 4, _, _, none⟩) (v := ?_) #[true, true, true, true, true, true, true, true, true, true, true, true, true, true, true, true, true, true, true, true, true] rfl (by kernel_rfl) (by kernel_rfl) (by kernel_rfl) (fun _ _ _ h => h) hS ?_ rfl ?_
  rotate_left
  · refine Or.inl ⟨rfl, fun W hW => ?_⟩
    dsimp only at hW
    obtain ⟨hW0, hW1, hW2, hW3⟩ := hW
    go_simp
    try rfl
  try simp only [Act.put, List.setIfInBounds_toArray, List.set_cons_zero, List.set_cons_succ]
  refine wpAnyH_done (by kernel_rfl) ?_ _
  have hB : Below (w.heap.size + 1) (w.alloc (.cells #[.int .i64 k, .int .i64 ix, .int .i64 wo, .int .i64 li, .bool on, .int .i64 rw, .int .u32 rf, .int .u32 rt, .bool rd, .bool wr, .int .i64 rk, .bool lk] 31)) w2 := (by repeat (first | exact Below.refl _ _ | refine Below.drew ?_ | refine Below.alloc ?_ (by first | omega | (simp <;> omega)) _ | (refine Below.trans ?_ (Below.mono (by assumption) (by first | omega | (simp <;> omega))))))
  have hr := (hB.block w.heap.size (by omega)).trans hcl
  have c0 : w2.cell? ⟨w.heap.size, 0, none⟩ = some (.int .i64 k) := by simp [World.cell?, hr]
  have c1 : w2.cell? ⟨w.heap.size, 1, none⟩ = some (.int .i64 ix) := by simp [World.cell?, hr]
  have c2 : w2.cell? ⟨w.heap.size, 2, none⟩ = some (.int .i64 wo) := by simp [World.cell?, hr]
  have c3 : w2.cell? ⟨w.heap.size, 3, none⟩ = some (.int .i64 li) := by simp [World.cell?, hr]
  have c4 : w2.cell? ⟨w.heap.size, 4, none⟩ = some (.bool on) := by simp [World.cell?, hr]
  have c5 : w2.cell? ⟨w.heap.size, 5, none⟩ = some (.int .i64 rw) := by simp [World.cell?, hr]
  have c6 : w2.cell? ⟨w.heap.size, 6, none⟩ = some (.int .u32 rf) := by simp [World.cell?, hr]
  have c7 : w2.cell? ⟨w.heap.size, 7, none⟩ = some (.int .u32 rt) := by simp [World.cell?, hr]
  have c8 : w2.cell? ⟨w.heap.size, 8, none⟩ = some (.bool rd) := by simp [World.cell?, hr]
  have c9 : w2.cell? ⟨w.heap.size, 9, none⟩ = some (.bool wr) := by simp [World.cell?, hr]
  have c10 : w2.cell? ⟨w.heap.size, 10, none⟩ = some (.int .i64 rk) := by simp [World.cell?, hr]
  have c11 : w2.cell? ⟨w.heap.size, 11, none⟩ = some (.bool lk) := by simp [World.cell?, hr]
  have hlt : w.heap.size < w2.heap.size := by have := hB.size; simp at this; omega
  clear hr hcl hc0 hc1 hS hB hne hn0 hn7
  go_wp2_with (first | (go_at_call 216; (with_reducible refine (within_any 99 rw _ _ _ ?_ ?_).mono ?_); (· simp; done); (· simp; done); rintro e w3 ⟨rfl, hb3⟩; have hz3 := hb3.size; simp at hz3; have hcc := below_cell hb3; have hlt3 : w.heap.size < w3.heap.size := by omega) | (go_at_call 216; (with_reducible refine (within_any 999 rk _ _ _ ?_ ?_).mono ?_); (· simp; done); (· simp; done); rintro e w3 ⟨rfl, hb3⟩; have hz3 := hb3.size; simp at hz3; have hcc := below_cell hb3; have hlt3 : w.heap.size < w3.heap.size := by omega) | (go_at_call 216; (with_reducible refine (within_any 99 wo _ _ _ ?_ ?_).mono ?_); (· simp; done); (· simp; done); rintro e w3 ⟨rfl, hb3⟩; have hz3 := hb3.size; simp at hz3; have hcc := below_cell hb3; have hlt3 : w.heap.size < w3.heap.size := by omega) | (go_at_call 216; (with_reducible refine (within_any 99 li _ _ _ ?_ ?_).mono ?_); (· simp; done); (· simp; done); rintro e w3 ⟨rfl, hb3⟩; have hz3 := hb3.size; simp at hz3; have hcc := below_cell hb3; have hlt3 : w.heap.size < w3.heap.size := by omega) | (go_at_call 216; (with_reducible refine (within_any 99 0 _ _ _ ?_ ?_).mono ?_); (· simp; done); (· simp; done); rintro e w3 ⟨rfl, hb3⟩; have hz3 := hb3.size; simp at hz3; have hcc := below_cell hb3; have hlt3 : w.heap.size < w3.heap.size := by omega))
  go_ret
  exact ⟨by first | rfl | (simp [*]; done) | (simp <;> omega), (by repeat (first | exact Below.refl _ _ | refine Below.drew ?_ | refine Below.alloc ?_ (by first | omega | (simp <;> omega)) _ | (refine Below.trans ?_ (Below.mono (by assumption) (by first | omega | (simp <;> omega))))))⟩
set_option maxRecDepth 100000 in
set_option maxHeartbeats 1000000 in
theorem right_okN (k ix wo li rw rf rt rk : Int) (on rd wr lk : Bool) (n : Cmd) (hn : Hid (cmdNamed ⟨k, ix, wo, li, ⟨on, rw, rf, rt, rd, wr, rk, lk⟩⟩ = n)) (w : World) (h0 : 1 ≤ k) (h7 : k ≤ 7) (hix : inB 999 ix = true) (hk : (k == 1) = false) (hwo : inB 99 wo = true) (hl0 : li < 0) (hl1 : -1 ≤ li) (hi0 : inB 99 0 = true) (hne : eqCmd ⟨k, ix, wo, li, ⟨on, rw, rf, rt, rd, wr, rk, lk⟩⟩ ⟨n.k, n.ix, n.wo, n.li, ⟨n.reg.on, n.reg.rw, n.reg.rf, n.reg.rt, n.reg.rd, n.reg.wr, n.reg.rk, n.reg.lk⟩⟩ = true) :
    Calls Tryz.prog 129 #[.agg #[.int .i64 k, .int .i64 ix, .int .i64 wo, .int .i64 li, .bool on, .int .i64 rw, .int .u32 rf, .int .u32 rt, .bool rd, .bool wr, .int .i64 rk, .bool lk]] w fun e w' => e = .returned (.bool (true)) ∧ Below w.heap.size w w' := by
  have hcl : (w.alloc (.cells #[.int .i64 k, .int .i64 ix, .int .i64 wo, .int .i64 li, .bool on, .int .i64 rw, .int .u32 rf, .int .u32 rt, .bool rd, .bool wr, .int .i64 rk, .bool lk] 31)).heap[w.heap.size]? = some (.cells #[.int .i64 k, .int .i64 ix, .int .i64 wo, .int .i64 li, .bool on, .int .i64 rw, .int .u32 rf, .int .u32 rt, .bool rd, .bool wr, .int .i64 rk, .bool lk] 31) := heap_alloc_new _ _
  have hc0 : (w.alloc (.cells #[.int .i64 k, .int .i64 ix, .int .i64 wo, .int .i64 li, .bool on, .int .i64 rw, .int .u32 rf, .int .u32 rt, .bool rd, .bool wr, .int .i64 rk, .bool lk] 31)).cell? ⟨w.heap.size, 0, none⟩ = some (.int .i64 k) := by simp
  have hc1 : (w.alloc (.cells #[.int .i64 k, .int .i64 ix, .int .i64 wo, .int .i64 li, .bool on, .int .i64 rw, .int .u32 rf, .int .u32 rt, .bool rd, .bool wr, .int .i64 rk, .bool lk] 31)).cell? ⟨w.heap.size, 1, none⟩ = some (.int .i64 ix) := by simp
  have hn0 : decide (k < 1) = false := by simp; omega
  have hn7 : decide (7 < k) = false := by simp; omega
  clear h0 h7
  go_enter Tryz.func129, Tryz.ntmps129
  go_wp2_with fail
  refine region_start (S := (fun W => W.cell? ⟨w.heap.size, 0, none⟩ = some (.int .i64 k) ∧ W.cell? ⟨w.heap.size, 1, none⟩ = some (.int .i64 ix) ∧ IsRow W w.heap.size 12 ∧ rowOf W w.heap.size = #[.int .i64 k, .int .i64 ix, .int .i64 wo, .int .i64 li, .bool on, .int .i64 rw, .int .u32 rf, .int .u32 rt, .bool rd, .bool wr, .int .i64 rk, .bool lk])) 21 rfl #[false, false, false, false, false, false, false, false, false, false, false, false, false, false, false, false, false, false, false, false, false] rfl (by kernel_rfl) ?_
  refine region_s ?_ ?_
  · exact keep129 hcl rfl (by repeat (first | exact Below.refl _ _ | refine Below.drew ?_ | refine Below.alloc ?_ (by first | omega | (simp <;> omega)) _ | (refine Below.trans ?_ (Below.mono (by assumption) (by first | omega | (simp <;> omega)))))) rfl rfl
  intro hS
  refine region_take (i := 0) (oi := ⟨(some 3), (Op.fieldAddr 31 (Operand.tmp 1) 0), 0, _, _, none⟩) (v := ?_) #[true, false, false, false, false, false, false, false, false, false, false, false, false, false, false, false, false, false, false, false, false] rfl (by kernel_rfl) (by kernel_rfl) (by kernel_rfl) (fun _ _ _ h => h) hS ?_ rfl ?_
  rotate_left
  · refine Or.inl ⟨rfl, fun W hW => ?_⟩
    dsimp only at hW
    obtain ⟨hW0, hW1, hW2, hW3⟩ := hW
    go_simp
    try rfl
  try simp only [Act.put, List.setIfInBounds_toArray, List.set_cons_zero, List.set_cons_succ]
  refine region_take (i := 1) (oi := ⟨(some 4), (Op.load 25 (Operand.tmp 3)), 25, _, _, none⟩) (v := ?_) #[true, true, false, false, false, false, false, false, false, false, false, false, false, false, false, false, false, false, false, false, false] rfl (by kernel_rfl) (by kernel_rfl) (by kernel_rfl) (fun _ _ _ h => h) hS ?_ rfl ?_
  rotate_left
  · refine Or.inl ⟨rfl, fun W hW => ?_⟩
    dsimp only at hW
    obtain ⟨hW0, hW1, hW2, hW3⟩ := hW
    go_simp
    try rfl
  try simp only [Act.put, List.setIfInBounds_toArray, List.set_cons_zero, List.set_cons_succ]
  refine region_take (i := 2) (oi := ⟨(some 5), (Op.binOp BinOp.lss 25 (Operand.tmp 4) (Operand.const (Value.int IntKind.i64 1)) 25), 4, _, _, none⟩) (v := ?_) #[true, true, true, false, false, false, false, false, false, false, false, false, false, false, false, false, false, false, false, false, false] rfl (by kernel_rfl) (by kernel_rfl) (by kernel_rfl) (fun _ _ _ h => h) hS ?_ rfl ?_
  rotate_left
  · refine Or.inl ⟨rfl, fun W hW => ?_⟩
    dsimp only at hW
    obtain ⟨hW0, hW1, hW2, hW3⟩ := hW
    go_simp
    try rfl
  try simp only [Act.put, List.setIfInBounds_toArray, List.set_cons_zero, List.set_cons_succ]
  refine region_take (i := 3) (oi := ⟨(some 6), (Op.move (Operand.tmp 5)), 4, _, _, none⟩) (v := ?_) #[true, true, true, true, false, false, false, false, false, false, false, false, false, false, false, false, false, false, false, false, false] rfl (by kernel_rfl) (by kernel_rfl) (by kernel_rfl) (fun _ _ _ h => h) hS ?_ rfl ?_
  rotate_left
  · refine Or.inl ⟨rfl, fun W hW => ?_⟩
    dsimp only at hW
    obtain ⟨hW0, hW1, hW2, hW3⟩ := hW
    go_simp
    try rfl
  try simp only [Act.put, List.setIfInBounds_toArray, List.set_cons_zero, List.set_cons_succ]
  refine region_take (i := 4) (oi := ⟨(some 7), (Op.fieldAddr 31 (Operand.tmp 1) 0), 0, _, _, (some (3, false))⟩) (v := ?_) #[true, true, true, true, true, false, false, false, false, false, false, false, false, false, false, false, false, false, false, false, false] rfl (by kernel_rfl) (by kernel_rfl) (by kernel_rfl) (fun _ _ _ h => h) hS ?_ rfl ?_
  rotate_left
  · refine Or.inl ⟨rfl, fun W hW => ?_⟩
    dsimp only at hW
    obtain ⟨hW0, hW1, hW2, hW3⟩ := hW
    go_simp
    try rfl
  try simp only [Act.put, List.setIfInBounds_toArray, List.set_cons_zero, List.set_cons_succ]
  refine region_take (i := 5) (oi := ⟨(some 8), (Op.load 25 (Operand.tmp 7)), 25, _, _, (some (3, false))⟩) (v := ?_) #[true, true, true, true, true, true, false, false, false, false, false, false, false, false, false, false, false, false, false, false, false] rfl (by kernel_rfl) (by kernel_rfl) (by kernel_rfl) (fun _ _ _ h => h) hS ?_ rfl ?_
  rotate_left
  · refine Or.inl ⟨rfl, fun W hW => ?_⟩
    dsimp only at hW
    obtain ⟨hW0, hW1, hW2, hW3⟩ := hW
    go_simp
    try rfl
  try simp only [Act.put, List.setIfInBounds_toArray, List.set_cons_zero, List.set_cons_succ]
  refine region_take (i := 6) (oi := ⟨(some 9), (Op.binOp BinOp.gtr 25 (Operand.tmp 8) (Operand.const (Value.int IntKind.i64 7)) 25), 4, _, _, (some (3, false))⟩) (v := ?_) #[true, true, true, true, true, true, true, false, false, false, false, false, false, false, false, false, false, false, false, false, false] rfl (by kernel_rfl) (by kernel_rfl) (by kernel_rfl) (fun _ _ _ h => h) hS ?_ rfl ?_
  rotate_left
  · refine Or.inl ⟨rfl, fun W hW => ?_⟩
    dsimp only at hW
    obtain ⟨hW0, hW1, hW2, hW3⟩ := hW
    go_simp
    try rfl
  try simp only [Act.put, List.setIfInBounds_toArray, List.set_cons_zero, List.set_cons_succ]
  refine region_take (i := 7) (oi := ⟨(some 10), (Op.pick (Operand.tmp 6) (Operand.const (Value.bool true)) (Operand.tmp 9)), 4, _, _, none⟩) (v := ?_) #[true, true, true, true, true, true, true, true, false, false, false, false, false, false, false, false, false, false, false, false, false] rfl (by kernel_rfl) (by kernel_rfl) (by kernel_rfl) (fun _ _ _ h => h) hS ?_ rfl ?_
  rotate_left
  · refine Or.inl ⟨rfl, fun W hW => ?_⟩
    dsimp only at hW
    obtain ⟨hW0, hW1, hW2, hW3⟩ := hW
    go_simp
    try rfl
  try simp only [Act.put, List.setIfInBounds_toArray, List.set_cons_zero, List.set_cons_succ]
  refine region_take (i := 8) (oi := ⟨(some 11), (Op.move (Operand.tmp 10)), 4, _, _, none⟩) (v := ?_) #[true, true, true, true, true, true, true, true, true, false, false, false, false, false, false, false, false, false, false, false, false] rfl (by kernel_rfl) (by kernel_rfl) (by kernel_rfl) (fun _ _ _ h => h) hS ?_ rfl ?_
  rotate_left
  · refine Or.inl ⟨rfl, fun W hW => ?_⟩
    dsimp only at hW
    obtain ⟨hW0, hW1, hW2, hW3⟩ := hW
    go_simp
    try rfl
  try simp only [Act.put, List.setIfInBounds_toArray, List.set_cons_zero, List.set_cons_succ]
  refine region_take (i := 9) (oi := ⟨(some 12), (Op.load 31 (Operand.tmp 1)), 31, _, _, (some (8, false))⟩) (v := ?_) #[true, true, true, true, true, true, true, true, true, true, false, false, false, false, false, false, false, false, false, false, false] rfl (by kernel_rfl) (by kernel_rfl) (by kernel_rfl) (fun _ _ _ h => h) hS ?_ rfl ?_
  rotate_left
  · refine Or.inl ⟨rfl, fun W hW => ?_⟩
    dsimp only at hW
    obtain ⟨hW0, hW1, hW2, hW3⟩ := hW
    go_simp
    try rfl
  try simp only [Act.put, List.setIfInBounds_toArray, List.set_cons_zero, List.set_cons_succ]
  refine region_take (i := 10) (oi := ⟨(some 13), (Op.load 31 (Operand.tmp 1)), 31, _, _, (some (8, false))⟩) (v := ?_) #[true, true, true, true, true, true, true, true, true, true, true, false, false, false, false, false, false, false, false, false, false] rfl (by kernel_rfl) (by kernel_rfl) (by kernel_rfl) (fun _ _ _ h => h) hS ?_ rfl ?_
  rotate_left
  · refine Or.inl ⟨rfl, fun W hW => ?_⟩
    dsimp only at hW
    obtain ⟨hW0, hW1, hW2, hW3⟩ := hW
    go_simp
    try rfl
  try simp only [Act.put, List.setIfInBounds_toArray, List.set_cons_zero, List.set_cons_succ]
  refine region_op (i := 11) (oi := ⟨(some 14), (Op.call { callee := (Callee.value (Operand.func 215)), args := #[(Operand.tmp 13)], argTypes := #[31] }), 31, _, _, (some (8, false))⟩) #[true, true, true, true, true, true, true, true, true, true, true, true, false, false, false, false, false, false, false, false, false] rfl (by kernel_rfl) rfl rfl ?_
  intro K hK
  go_simp; refine (named_as _ _ _ _ _ _ _ _ _ _ _ _ n hn _).mono ?_; rintro e w1 ⟨rfl, hb⟩; have hz := hb.size; simp at hz
  refine hK _ _ ⟨?_, fun hS => ?_⟩
  · exact keep129 hcl rfl (by repeat (first | exact Below.refl _ _ | refine Below.drew ?_ | refine Below.alloc ?_ (by first | omega | (simp <;> omega)) _ | (refine Below.trans ?_ (Below.mono (by assumption) (by first | omega | (simp <;> omega)))))) rfl rfl
  try simp only [Act.put, List.setIfInBounds_toArray, List.set_cons_zero, List.set_cons_succ]
  refine region_take (i := 12) (oi := ⟨(some 15), (Op.binOp BinOp.neq 31 (Operand.tmp 12) (Operand.tmp 14) 31), 4, _, _, (some (8, false))⟩) (v := ?_) #[true, true, true, true, true, true, true, true, true, true, true, true, true, false, false, false, false, false, false, false, false] rfl (by kernel_rfl) (by kernel_rfl) (by kernel_rfl) (fun _ _ _ h => h) hS ?_ rfl ?_
  rotate_left
  · refine Or.inl ⟨rfl, fun W hW => ?_⟩
    dsimp only at hW
    obtain ⟨hW0, hW1, hW2, hW3⟩ := hW
    go_simp
    try rfl
  try simp only [Act.put, List.setIfInBounds_toArray, List.set_cons_zero, List.set_cons_succ]
  refine region_take (i := 13) (oi := ⟨(some 16), (Op.pick (Operand.tmp 11) (Operand.const (Value.bool true)) (Operand.tmp 15)), 4, _, _, none⟩) (v := ?_) #[true, true, true, true, true, true, true, true, true, true, true, true, true, true, false, false, false, false, false, false, false] rfl (by kernel_rfl) (by kernel_rfl) (by kernel_rfl) (fun _ _ _ h => h) hS ?_ rfl ?_
  rotate_left
  · refine Or.inl ⟨rfl, fun W hW => ?_⟩
    dsimp only at hW
    obtain ⟨hW0, hW1, hW2, hW3⟩ := hW
    go_simp
    try rfl
  try simp only [Act.put, List.setIfInBounds_toArray, List.set_cons_zero, List.set_cons_succ]
  refine region_take (i := 14) (oi := ⟨(some 17), (Op.move (Operand.tmp 16)), 4, _, _, none⟩) (v := ?_) #[true, true, true, true, true, true, true, true, true, true, true, true, true, true, true, false, false, false, false, false, false] rfl (by kernel_rfl) (by kernel_rfl) (by kernel_rfl) (fun _ _ _ h => h) hS ?_ rfl ?_
  rotate_left
  · refine Or.inl ⟨rfl, fun W hW => ?_⟩
    dsimp only at hW
    obtain ⟨hW0, hW1, hW2, hW3⟩ := hW
    go_simp
    try rfl
  try simp only [Act.put, List.setIfInBounds_toArray, List.set_cons_zero, List.set_cons_succ]
  refine region_take (i := 15) (oi := ⟨(some 18), (Op.fieldAddr 31 (Operand.tmp 1) 1), 0, _, _, (some (14, false))⟩) (v := ?_) #[true, true, true, true, true, true, true, true, true, true, true, true, true, true, true, true, false, false, false, false, false] rfl (by kernel_rfl) (by kernel_rfl) (by kernel_rfl) (fun _ _ _ h => h) hS ?_ rfl ?_
  rotate_left
  · refine Or.inl ⟨rfl, fun W hW => ?_⟩
    dsimp only at hW
    obtain ⟨hW0, hW1, hW2, hW3⟩ := hW
    go_simp
    try rfl
  try simp only [Act.put, List.setIfInBounds_toArray, List.set_cons_zero, List.set_cons_succ]
  refine region_take (i := 16) (oi := ⟨(some 19), (Op.load 3 (Operand.tmp 18)), 3, _, _, (some (14, false))⟩) (v := ?_) #[true, true, true, true, true, true, true, true, true, true, true, true, true, true, true, true, true, false, false, false, false] rfl (by kernel_rfl) (by kernel_rfl) (by kernel_rfl) (fun _ _ _ h => h) hS ?_ rfl ?_
  rotate_left
  · refine Or.inl ⟨rfl, fun W hW => ?_⟩
    dsimp only at hW
    obtain ⟨hW0, hW1, hW2, hW3⟩ := hW
    go_simp
    try rfl
  try simp only [Act.put, List.setIfInBounds_toArray, List.set_cons_zero, List.set_cons_succ]
  refine region_op (i := 17) (oi := ⟨(some 20), (Op.buildSlice 42 1 #[(0, (Operand.tmp 19))]), 42, _, _, (some (14, false))⟩) #[true, true, true, true, true, true, true, true, true, true, true, true, true, true, true, true, true, true, false, false, false] rfl (by kernel_rfl) rfl rfl ?_
  intro K hK
  go_simp
  refine hK _ _ ⟨?_, fun hS => ?_⟩
  · exact keep129 hcl rfl (by repeat (first | exact Below.refl _ _ | refine Below.drew ?_ | refine Below.alloc ?_ (by first | omega | (simp <;> omega)) _ | (refine Below.trans ?_ (Below.mono (by assumption) (by first | omega | (simp <;> omega)))))) rfl rfl
  try simp only [Act.put, List.setIfInBounds_toArray, List.set_cons_zero, List.set_cons_succ]
  refine region_op (i := 18) (oi := ⟨(some 21), (Op.call { callee := (Callee.value (Operand.func 216)), args := #[(Operand.const (Value.int IntKind.i64 999)), (Operand.tmp 20)], argTypes := #[3, 42] }), 4, _, _, (some (14, false))⟩) #[true, true, true, true, true, true, true, true, true, true, true, true, true, true, true, true, true, true, true, false, false] rfl (by kernel_rfl) rfl rfl ?_
  intro K hK
  go_simp; refine (within_any 999 ix _ _ _ (by simp) (by simp)).mono ?_; rintro e w2 ⟨rfl, hb2⟩; have hz2 := hb2.size; simp at hz2
  refine hK _ _ ⟨?_, fun hS => ?_⟩
  · exact keep129 hcl rfl (by repeat (first | exact Below.refl _ _ | refine Below.drew ?_ | refine Below.alloc ?_ (by first | omega | (simp <;> omega)) _ | (refine Below.trans ?_ (Below.mono (by assumption) (by first | omega | (simp <;> omega)))))) rfl rfl
  try simp only [Act.put, List.setIfInBounds_toArray, List.set_cons_zero, List.set_cons_succ]
  refine region_take (i := 19) (oi := ⟨(some 22), (Op.unOp UnOp.not 4 (Operand.tmp 21)), 4, _, _, (some (14, false))⟩) (v := ?_) #[true, true, true, true, true, true, true, true, true, true, true, true, true, true, true, true, true, true, true, true, false] rfl (by kernel_rfl) (by kernel_rfl) (by kernel_rfl) (fun _ _ _ h => h) hS ?_ rfl ?_
  rotate_left
  · refine Or.inl ⟨rfl, fun W hW => ?_⟩
    dsimp only at hW
    obtain ⟨hW0, hW1, hW2, hW3⟩ := hW
    go_simp
    try rfl
  try simp only [Act.put, List.setIfInBounds_toArray, List.set_cons_zero, List.set_cons_succ]
  refine region_take (i := 20) (oi := ⟨(some 23), (Op.pick (Operand.tmp 17) (Operand.const (Value.bool true)) (Operand.tmp 22)), 4, _, _, none⟩) (v := ?_) #[true, true, true, true, true, true, true, true, true, true, true, true, true, true, true, true, true, true, true, true, true] rfl (by kernel_rfl) (by kernel_rfl) (by kernel_rfl) (fun _ _ _ h => h) hS ?_ rfl ?_
  rotate_left
  · refine Or.inl ⟨rfl, fun W hW => ?_⟩
    dsimp only at hW
    obtain ⟨hW0, hW1, hW2, hW3⟩ := hW
    go_simp
    try rfl
  try simp only [Act.put, List.setIfInBounds_toArray, List.set_cons_zero, List.set_cons_succ]
  refine wpAnyH_done (by kernel_rfl) ?_ _
  have hB : Below (w.heap.size + 1) (w.alloc (.cells #[.int .i64 k, .int .i64 ix, .int .i64 wo, .int .i64 li, .bool on, .int .i64 rw, .int .u32 rf, .int .u32 rt, .bool rd, .bool wr, .int .i64 rk, .bool lk] 31)) w2 := (by repeat (first | exact Below.refl _ _ | refine Below.drew ?_ | refine Below.alloc ?_ (by first | omega | (simp <;> omega)) _ | (refine Below.trans ?_ (Below.mono (by assumption) (by first | omega | (simp <;> omega))))))
  have hr := (hB.block w.heap.size (by omega)).trans hcl
  have c0 : w2.cell? ⟨w.heap.size, 0, none⟩ = some (.int .i64 k) := by simp [World.cell?, hr]
  have c1 : w2.cell? ⟨w.heap.size, 1, none⟩ = some (.int .i64 ix) := by simp [World.cell?, hr]
  have c2 : w2.cell? ⟨w.heap.size, 2, none⟩ = some (.int .i64 wo) := by simp [World.cell?, hr]
  have c3 : w2.cell? ⟨w.heap.size, 3, none⟩ = some (.int .i64 li) := by simp [World.cell?, hr]
  have c4 : w2.cell? ⟨w.heap.size, 4, none⟩ = some (.bool on) := by simp [World.cell?, hr]
  have c5 : w2.cell? ⟨w.heap.size, 5, none⟩ = some (.int .i64 rw) := by simp [World.cell?, hr]
  have c6 : w2.cell? ⟨w.heap.size, 6, none⟩ = some (.int .u32 rf) := by simp [World.cell?, hr]
  have c7 : w2.cell? ⟨w.heap.size, 7, none⟩ = some (.int .u32 rt) := by simp [World.cell?, hr]
  have c8 : w2.cell? ⟨w.heap.size, 8, none⟩ = some (.bool rd) := by simp [World.cell?, hr]
  have c9 : w2.cell? ⟨w.heap.size, 9, none⟩ = some (.bool wr) := by simp [World.cell?, hr]
  have c10 : w2.cell? ⟨w.heap.size, 10, none⟩ = some (.int .i64 rk) := by simp [World.cell?, hr]
  have c11 : w2.cell? ⟨w.heap.size, 11, none⟩ = some (.bool lk) := by simp [World.cell?, hr]
  have hlt : w.heap.size < w2.heap.size := by have := hB.size; simp at this; omega
  clear hr hcl hc0 hc1 hS hB hne hn0 hn7
  go_wp2_with (first | (go_at_call 216; (with_reducible refine (within_any 99 rw _ _ _ ?_ ?_).mono ?_); (· simp; done); (· simp; done); rintro e w3 ⟨rfl, hb3⟩; have hz3 := hb3.size; simp at hz3; have hcc := below_cell hb3; have hlt3 : w.heap.size < w3.heap.size := by omega) | (go_at_call 216; (with_reducible refine (within_any 999 rk _ _ _ ?_ ?_).mono ?_); (· simp; done); (· simp; done); rintro e w3 ⟨rfl, hb3⟩; have hz3 := hb3.size; simp at hz3; have hcc := below_cell hb3; have hlt3 : w.heap.size < w3.heap.size := by omega) | (go_at_call 216; (with_reducible refine (within_any 99 wo _ _ _ ?_ ?_).mono ?_); (· simp; done); (· simp; done); rintro e w3 ⟨rfl, hb3⟩; have hz3 := hb3.size; simp at hz3; have hcc := below_cell hb3; have hlt3 : w.heap.size < w3.heap.size := by omega) | (go_at_call 216; (with_reducible refine (within_any 99 li _ _ _ ?_ ?_).mono ?_); (· simp; done); (· simp; done); rintro e w3 ⟨rfl, hb3⟩; have hz3 := hb3.size; simp at hz3; have hcc := below_cell hb3; have hlt3 : w.heap.size < w3.heap.size := by omega) | (go_at_call 216; (with_reducible refine (within_any 99 0 _ _ _ ?_ ?_).mono ?_); (· simp; done); (· simp; done); rintro e w3 ⟨rfl, hb3⟩; have hz3 := hb3.size; simp at hz3; have hcc := below_cell hb3; have hlt3 : w.heap.size < w3.heap.size := by omega))
  go_ret
  exact ⟨by first | rfl | (simp [*]; done) | (simp <;> omega), (by repeat (first | exact Below.refl _ _ | refine Below.drew ?_ | refine Below.alloc ?_ (by first | omega | (simp <;> omega)) _ | (refine Below.trans ?_ (Below.mono (by assumption) (by first | omega | (simp <;> omega))))))⟩
set_option maxRecDepth 100000 in
set_option maxHeartbeats 1000000 in
theorem right_noN (k ix wo li rw rf rt rk : Int) (on rd wr lk : Bool) (n : Cmd) (hn : Hid (cmdNamed ⟨k, ix, wo, li, ⟨on, rw, rf, rt, rd, wr, rk, lk⟩⟩ = n)) (w : World) (h0 : 1 ≤ k) (h7 : k ≤ 7) (hix : inB 999 ix = true) (hk : (k == 1) = false) (hwo : inB 99 wo = true) (hl0 : li < 0) (hl1 : li < -1) (hi0 : inB 99 0 = true) (hne : eqCmd ⟨k, ix, wo, li, ⟨on, rw, rf, rt, rd, wr, rk, lk⟩⟩ ⟨n.k, n.ix, n.wo, n.li, ⟨n.reg.on, n.reg.rw, n.reg.rf, n.reg.rt, n.reg.rd, n.reg.wr, n.reg.rk, n.reg.lk⟩⟩ = true) :
    Calls Tryz.prog 129 #[.agg #[.int .i64 k, .int .i64 ix, .int .i64 wo, .int .i64 li, .bool on, .int .i64 rw, .int .u32 rf, .int .u32 rt, .bool rd, .bool wr, .int .i64 rk, .bool lk]] w fun e w' => e = .returned (.bool (false)) ∧ Below w.heap.size w w' := by
  have hcl : (w.alloc (.cells #[.int .i64 k, .int .i64 ix, .int .i64 wo, .int .i64 li, .bool on, .int .i64 rw, .int .u32 rf, .int .u32 rt, .bool rd, .bool wr, .int .i64 rk, .bool lk] 31)).heap[w.heap.size]? = some (.cells #[.int .i64 k, .int .i64 ix, .int .i64 wo, .int .i64 li, .bool on, .int .i64 rw, .int .u32 rf, .int .u32 rt, .bool rd, .bool wr, .int .i64 rk, .bool lk] 31) := heap_alloc_new _ _
  have hc0 : (w.alloc (.cells #[.int .i64 k, .int .i64 ix, .int .i64 wo, .int .i64 li, .bool on, .int .i64 rw, .int .u32 rf, .int .u32 rt, .bool rd, .bool wr, .int .i64 rk, .bool lk] 31)).cell? ⟨w.heap.size, 0, none⟩ = some (.int .i64 k) := by simp
  have hc1 : (w.alloc (.cells #[.int .i64 k, .int .i64 ix, .int .i64 wo, .int .i64 li, .bool on, .int .i64 rw, .int .u32 rf, .int .u32 rt, .bool rd, .bool wr, .int .i64 rk, .bool lk] 31)).cell? ⟨w.heap.size, 1, none⟩ = some (.int .i64 ix) := by simp
  have hn0 : decide (k < 1) = false := by simp; omega
  have hn7 : decide (7 < k) = false := by simp; omega
  have hl2 : decide (-1 ≤ li) = false := by simp; omega
  clear h0 h7
  go_enter Tryz.func129, Tryz.ntmps129
  go_wp2_with fail
  refine region_start (S := (fun W => W.cell? ⟨w.heap.size, 0, none⟩ = some (.int .i64 k) ∧ W.cell? ⟨w.heap.size, 1, none⟩ = some (.int .i64 ix) ∧ IsRow W w.heap.size 12 ∧ rowOf W w.heap.size = #[.int .i64 k, .int .i64 ix, .int .i64 wo, .int .i64 li, .bool on, .int .i64 rw, .int .u32 rf, .int .u32 rt, .bool rd, .bool wr, .int .i64 rk, .bool lk])) 21 rfl #[false, false, false, false, false, false, false, false, false, false, false, false, false, false, false, false, false, false, false, false, false] rfl (by kernel_rfl) ?_
  refine region_s ?_ ?_
  · exact keep129 hcl rfl (by repeat (first | exact Below.refl _ _ | refine Below.drew ?_ | refine Below.alloc ?_ (by first | omega | (simp <;> omega)) _ | (refine Below.trans ?_ (Below.mono (by assumption) (by first | omega | (simp <;> omega)))))) rfl rfl
  intro hS
  refine region_take (i := 0) (oi := ⟨(some 3), (Op.fieldAddr 31 (Operand.tmp 1) 0), 0, _, _, none⟩) (v := ?_) #[true, false, false, false, false, false, false, false, false, false, false, false, false, false, false, false, false, false, false, false, false] rfl (by kernel_rfl) (by kernel_rfl) (by kernel_rfl) (fun _ _ _ h => h) hS ?_ rfl ?_
  rotate_left
  · refine Or.inl ⟨rfl, fun W hW => ?_⟩
    dsimp only at hW
    obtain ⟨hW0, hW1, hW2, hW3⟩ := hW
    go_simp
    try rfl
  try simp only [Act.put, List.setIfInBounds_toArray, List.set_cons_zero, List.set_cons_succ]
  refine region_take (i := 1) (oi := ⟨(some 4), (Op.load 25 (Operand.tmp 3)), 25, _, _, none⟩) (v := ?_) #[true, true, false, false, false, false, false, false, false, false, false, false, false, false, false, false, false, false, false, false, false] rfl (by kernel_rfl) (by kernel_rfl) (by kernel_rfl) (fun _ _ _ h => h) hS ?_ rfl ?_
  rotate_left
  · refine Or.inl ⟨rfl, fun W hW => ?_⟩
    dsimp only at hW
    obtain ⟨hW0, hW1, hW2, hW3⟩ := hW
    go_simp
    try rfl
  try simp only [Act.put, List.setIfInBounds_toArray, List.set_cons_zero, List.set_cons_succ]
  refine region_take (i := 2) (oi := ⟨(some 5), (Op.binOp BinOp.lss 25 (Operand.tmp 4) (Operand.const (Value.int IntKind.i64 1)) 25), 4, _, _, none⟩) (v := ?_) #[true, true, true, false, false, false, false, false, false, false, false, false, false, false, false, false, false, false, false, false, false] rfl (by kernel_rfl) (by kernel_rfl) (by kernel_rfl) (fun _ _ _ h => h) hS ?_ rfl ?_
  rotate_left
  · refine Or.inl ⟨rfl, fun W hW => ?_⟩
    dsimp only at hW
    obtain ⟨hW0, hW1, hW2, hW3⟩ := hW
    go_simp
    try rfl
  try simp only [Act.put, List.setIfInBounds_toArray, List.set_cons_zero, List.set_cons_succ]
  refine region_take (i := 3) (oi := ⟨(some 6), (Op.move (Operand.tmp 5)), 4, _, _, none⟩) (v := ?_) #[true, true, true, true, false, false, false, false, false, false, false, false, false, false, false, false, false, false, false, false, false] rfl (by kernel_rfl) (by kernel_rfl) (by kernel_rfl) (fun _ _ _ h => h) hS ?_ rfl ?_
  rotate_left
  · refine Or.inl ⟨rfl, fun W hW => ?_⟩
    dsimp only at hW
    obtain ⟨hW0, hW1, hW2, hW3⟩ := hW
    go_simp
    try rfl
  try simp only [Act.put, List.setIfInBounds_toArray, List.set_cons_zero, List.set_cons_succ]
  refine region_take (i := 4) (oi := ⟨(some 7), (Op.fieldAddr 31 (Operand.tmp 1) 0), 0, _, _, (some (3, false))⟩) (v := ?_) #[true, true, true, true, true, false, false, false, false, false, false, false, false, false, false, false, false, false, false, false, false] rfl (by kernel_rfl) (by kernel_rfl) (by kernel_rfl) (fun _ _ _ h => h) hS ?_ rfl ?_
  rotate_left
  · refine Or.inl ⟨rfl, fun W hW => ?_⟩
    dsimp only at hW
    obtain ⟨hW0, hW1, hW2, hW3⟩ := hW
    go_simp
    try rfl
  try simp only [Act.put, List.setIfInBounds_toArray, List.set_cons_zero, List.set_cons_succ]
  refine region_take (i := 5) (oi := ⟨(some 8), (Op.load 25 (Operand.tmp 7)), 25, _, _, (some (3, false))⟩) (v := ?_) #[true, true, true, true, true, true, false, false, false, false, false, false, false, false, false, false, false, false, false, false, false] rfl (by kernel_rfl) (by kernel_rfl) (by kernel_rfl) (fun _ _ _ h => h) hS ?_ rfl ?_
  rotate_left
  · refine Or.inl ⟨rfl, fun W hW => ?_⟩
    dsimp only at hW
    obtain ⟨hW0, hW1, hW2, hW3⟩ := hW
    go_simp
    try rfl
  try simp only [Act.put, List.setIfInBounds_toArray, List.set_cons_zero, List.set_cons_succ]
  refine region_take (i := 6) (oi := ⟨(some 9), (Op.binOp BinOp.gtr 25 (Operand.tmp 8) (Operand.const (Value.int IntKind.i64 7)) 25), 4, _, _, (some (3, false))⟩) (v := ?_) #[true, true, true, true, true, true, true, false, false, false, false, false, false, false, false, false, false, false, false, false, false] rfl (by kernel_rfl) (by kernel_rfl) (by kernel_rfl) (fun _ _ _ h => h) hS ?_ rfl ?_
  rotate_left
  · refine Or.inl ⟨rfl, fun W hW => ?_⟩
    dsimp only at hW
    obtain ⟨hW0, hW1, hW2, hW3⟩ := hW
    go_simp
    try rfl
  try simp only [Act.put, List.setIfInBounds_toArray, List.set_cons_zero, List.set_cons_succ]
  refine region_take (i := 7) (oi := ⟨(some 10), (Op.pick (Operand.tmp 6) (Operand.const (Value.bool true)) (Operand.tmp 9)), 4, _, _, none⟩) (v := ?_) #[true, true, true, true, true, true, true, true, false, false, false, false, false, false, false, false, false, false, false, false, false] rfl (by kernel_rfl) (by kernel_rfl) (by kernel_rfl) (fun _ _ _ h => h) hS ?_ rfl ?_
  rotate_left
  · refine Or.inl ⟨rfl, fun W hW => ?_⟩
    dsimp only at hW
    obtain ⟨hW0, hW1, hW2, hW3⟩ := hW
    go_simp
    try rfl
  try simp only [Act.put, List.setIfInBounds_toArray, List.set_cons_zero, List.set_cons_succ]
  refine region_take (i := 8) (oi := ⟨(some 11), (Op.move (Operand.tmp 10)), 4, _, _, none⟩) (v := ?_) #[true, true, true, true, true, true, true, true, true, false, false, false, false, false, false, false, false, false, false, false, false] rfl (by kernel_rfl) (by kernel_rfl) (by kernel_rfl) (fun _ _ _ h => h) hS ?_ rfl ?_
  rotate_left
  · refine Or.inl ⟨rfl, fun W hW => ?_⟩
    dsimp only at hW
    obtain ⟨hW0, hW1, hW2, hW3⟩ := hW
    go_simp
    try rfl
  try simp only [Act.put, List.setIfInBounds_toArray, List.set_cons_zero, List.set_cons_succ]
  refine region_take (i := 9) (oi := ⟨(some 12), (Op.load 31 (Operand.tmp 1)), 31, _, _, (some (8, false))⟩) (v := ?_) #[true, true, true, true, true, true, true, true, true, true, false, false, false, false, false, false, false, false, false, false, false] rfl (by kernel_rfl) (by kernel_rfl) (by kernel_rfl) (fun _ _ _ h => h) hS ?_ rfl ?_
  rotate_left
  · refine Or.inl ⟨rfl, fun W hW => ?_⟩
    dsimp only at hW
    obtain ⟨hW0, hW1, hW2, hW3⟩ := hW
    go_simp
    try rfl
  try simp only [Act.put, List.setIfInBounds_toArray, List.set_cons_zero, List.set_cons_succ]
  refine region_take (i := 10) (oi := ⟨(some 13), (Op.load 31 (Operand.tmp 1)), 31, _, _, (some (8, false))⟩) (v := ?_) #[true, true, true, true, true, true, true, true, true, true, true, false, false, false, false, false, false, false, false, false, false] rfl (by kernel_rfl) (by kernel_rfl) (by kernel_rfl) (fun _ _ _ h => h) hS ?_ rfl ?_
  rotate_left
  · refine Or.inl ⟨rfl, fun W hW => ?_⟩
    dsimp only at hW
    obtain ⟨hW0, hW1, hW2, hW3⟩ := hW
    go_simp
    try rfl
  try simp only [Act.put, List.setIfInBounds_toArray, List.set_cons_zero, List.set_cons_succ]
  refine region_op (i := 11) (oi := ⟨(some 14), (Op.call { callee := (Callee.value (Operand.func 215)), args := #[(Operand.tmp 13)], argTypes := #[31] }), 31, _, _, (some (8, false))⟩) #[true, true, true, true, true, true, true, true, true, true, true, true, false, false, false, false, false, false, false, false, false] rfl (by kernel_rfl) rfl rfl ?_
  intro K hK
  go_simp; refine (named_as _ _ _ _ _ _ _ _ _ _ _ _ n hn _).mono ?_; rintro e w1 ⟨rfl, hb⟩; have hz := hb.size; simp at hz
  refine hK _ _ ⟨?_, fun hS => ?_⟩
  · exact keep129 hcl rfl (by repeat (first | exact Below.refl _ _ | refine Below.drew ?_ | refine Below.alloc ?_ (by first | omega | (simp <;> omega)) _ | (refine Below.trans ?_ (Below.mono (by assumption) (by first | omega | (simp <;> omega)))))) rfl rfl
  try simp only [Act.put, List.setIfInBounds_toArray, List.set_cons_zero, List.set_cons_succ]
  refine region_take (i := 12) (oi := ⟨(some 15), (Op.binOp BinOp.neq 31 (Operand.tmp 12) (Operand.tmp 14) 31), 4, _, _, (some (8, false))⟩) (v := ?_) #[true, true, true, true, true, true, true, true, true, true, true, true, true, false, false, false, false, false, false, false, false] rfl (by kernel_rfl) (by kernel_rfl) (by kernel_rfl) (fun _ _ _ h => h) hS ?_ rfl ?_
  rotate_left
  · refine Or.inl ⟨rfl, fun W hW => ?_⟩
    dsimp only at hW
    obtain ⟨hW0, hW1, hW2, hW3⟩ := hW
    go_simp
    try rfl
  try simp only [Act.put, List.setIfInBounds_toArray, List.set_cons_zero, List.set_cons_succ]
  refine region_take (i := 13) (oi := ⟨(some 16), (Op.pick (Operand.tmp 11) (Operand.const (Value.bool true)) (Operand.tmp 15)), 4, _, _, none⟩) (v := ?_) #[true, true, true, true, true, true, true, true, true, true, true, true, true, true, false, false, false, false, false, false, false] rfl (by kernel_rfl) (by kernel_rfl) (by kernel_rfl) (fun _ _ _ h => h) hS ?_ rfl ?_
  rotate_left
  · refine Or.inl ⟨rfl, fun W hW => ?_⟩
    dsimp only at hW
    obtain ⟨hW0, hW1, hW2, hW3⟩ := hW
    go_simp
    try rfl
  try simp only [Act.put, List.setIfInBounds_toArray, List.set_cons_zero, List.set_cons_succ]
  refine region_take (i := 14) (oi := ⟨(some 17), (Op.move (Operand.tmp 16)), 4, _, _, none⟩) (v := ?_) #[true, true, true, true, true, true, true, true, true, true, true, true, true, true, true, false, false, false, false, false, false] rfl (by kernel_rfl) (by kernel_rfl) (by kernel_rfl) (fun _ _ _ h => h) hS ?_ rfl ?_
  rotate_left
  · refine Or.inl ⟨rfl, fun W hW => ?_⟩
    dsimp only at hW
    obtain ⟨hW0, hW1, hW2, hW3⟩ := hW
    go_simp
    try rfl
  try simp only [Act.put, List.setIfInBounds_toArray, List.set_cons_zero, List.set_cons_succ]
  refine region_take (i := 15) (oi := ⟨(some 18), (Op.fieldAddr 31 (Operand.tmp 1) 1), 0, _, _, (some (14, false))⟩) (v := ?_) #[true, true, true, true, true, true, true, true, true, true, true, true, true, true, true, true, false, false, false, false, false] rfl (by kernel_rfl) (by kernel_rfl) (by kernel_rfl) (fun _ _ _ h => h) hS ?_ rfl ?_
  rotate_left
  · refine Or.inl ⟨rfl, fun W hW => ?_⟩
    dsimp only at hW
    obtain ⟨hW0, hW1, hW2, hW3⟩ := hW
    go_simp
    try rfl
  try simp only [Act.put, List.setIfInBounds_toArray, List.set_cons_zero, List.set_cons_succ]
  refine region_take (i := 16) (oi := ⟨(some 19), (Op.load 3 (Operand.tmp 18)), 3, _, _, (some (14, false))⟩) (v := ?_) #[true, true, true, true, true, true, true, true, true, true, true, true, true, true, true, true, true, false, false, false, false] rfl (by kernel_rfl) (by kernel_rfl) (by kernel_rfl) (fun _ _ _ h => h) hS ?_ rfl ?_
  rotate_left
  · refine Or.inl ⟨rfl, fun W hW => ?_⟩
    dsimp only at hW
    obtain ⟨hW0, hW1, hW2, hW3⟩ := hW
    go_simp
    try rfl
  try simp only [Act.put, List.setIfInBounds_toArray, List.set_cons_zero, List.set_cons_succ]
  refine region_op (i := 17) (oi := ⟨(some 20), (Op.buildSlice 42 1 #[(0, (Operand.tmp 19))]), 42, _, _, (some (14, false))⟩) #[true, true, true, true, true, true, true, true, true, true, true, true, true, true, true, true, true, true, false, false, false] rfl (by kernel_rfl) rfl rfl ?_
  intro K hK
  go_simp
  refine hK _ _ ⟨?_, fun hS => ?_⟩
  · exact keep129 hcl rfl (by repeat (first | exact Below.refl _ _ | refine Below.drew ?_ | refine Below.alloc ?_ (by first | omega | (simp <;> omega)) _ | (refine Below.trans ?_ (Below.mono (by assumption) (by first | omega | (simp <;> omega)))))) rfl rfl
  try simp only [Act.put, List.setIfInBounds_toArray, List.set_cons_zero, List.set_cons_succ]
  refine region_op (i := 18) (oi := ⟨(some 21), (Op.call { callee := (Callee.value (Operand.func 216)), args := #[(Operand.const (Value.int IntKind.i64 999)), (Operand.tmp 20)], argTypes := #[3, 42] }), 4, _, _, (some (14, false))⟩) #[true, true, true, true, true, true, true, true, true, true, true, true, true, true, true, true, true, true, true, false, false] rfl (by kernel_rfl) rfl rfl ?_
  intro K hK
  go_simp; refine (within_any 999 ix _ _ _ (by simp) (by simp)).mono ?_; rintro e w2 ⟨rfl, hb2⟩; have hz2 := hb2.size; simp at hz2
  refine hK _ _ ⟨?_, fun hS => ?_⟩
  · exact keep129 hcl rfl (by repeat (first | exact Below.refl _ _ | refine Below.drew ?_ | refine Below.alloc ?_ (by first | omega | (simp <;> omega)) _ | (refine Below.trans ?_ (Below.mono (by assumption) (by first | omega | (simp <;> omega)))))) rfl rfl
  try simp only [Act.put, List.setIfInBounds_toArray, List.set_cons_zero, List.set_cons_succ]
  refine region_take (i := 19) (oi := ⟨(some 22), (Op.unOp UnOp.not 4 (Operand.tmp 21)), 4, _, _, (some (14, false))⟩) (v := ?_) #[true, true, true, true, true, true, true, true, true, true, true, true, true, true, true, true, true, true, true, true, false] rfl (by kernel_rfl) (by kernel_rfl) (by kernel_rfl) (fun _ _ _ h => h) hS ?_ rfl ?_
  rotate_left
  · refine Or.inl ⟨rfl, fun W hW => ?_⟩
    dsimp only at hW
    obtain ⟨hW0, hW1, hW2, hW3⟩ := hW
    go_simp
    try rfl
  try simp only [Act.put, List.setIfInBounds_toArray, List.set_cons_zero, List.set_cons_succ]
  refine region_take (i := 20) (oi := ⟨(some 23), (Op.pick (Operand.tmp 17) (Operand.const (Value.bool true)) (Operand.tmp 22)), 4, _, _, none⟩) (v := ?_) #[true, true, true, true, true, true, true, true, true, true, true, true, true, true, true, true, true, true, true, true, true] rfl (by kernel_rfl) (by kernel_rfl) (by kernel_rfl) (fun _ _ _ h => h) hS ?_ rfl ?_
  rotate_left
  · refine Or.inl ⟨rfl, fun W hW => ?_⟩
    dsimp only at hW
    obtain ⟨hW0, hW1, hW2, hW3⟩ := hW
    go_simp
    try rfl
  try simp only [Act.put, List.setIfInBounds_toArray, List.set_cons_zero, List.set_cons_succ]
  refine wpAnyH_done (by kernel_rfl) ?_ _
  have hB : Below (w.heap.size + 1) (w.alloc (.cells #[.int .i64 k, .int .i64 ix, .int .i64 wo, .int .i64 li, .bool on, .int .i64 rw, .int .u32 rf, .int .u32 rt, .bool rd, .bool wr, .int .i64 rk, .bool lk] 31)) w2 := (by repeat (first | exact Below.refl _ _ | refine Below.drew ?_ | refine Below.alloc ?_ (by first | omega | (simp <;> omega)) _ | (refine Below.trans ?_ (Below.mono (by assumption) (by first | omega | (simp <;> omega))))))
  have hr := (hB.block w.heap.size (by omega)).trans hcl
  have c0 : w2.cell? ⟨w.heap.size, 0, none⟩ = some (.int .i64 k) := by simp [World.cell?, hr]
  have c1 : w2.cell? ⟨w.heap.size, 1, none⟩ = some (.int .i64 ix) := by simp [World.cell?, hr]
  have c2 : w2.cell? ⟨w.heap.size, 2, none⟩ = some (.int .i64 wo) := by simp [World.cell?, hr]
  have c3 : w2.cell? ⟨w.heap.size, 3, none⟩ = some (.int .i64 li) := by simp [World.cell?, hr]
  have c4 : w2.cell? ⟨w.heap.size, 4, none⟩ = some (.bool on) := by simp [World.cell?, hr]
  have c5 : w2.cell? ⟨w.heap.size, 5, none⟩ = some (.int .i64 rw) := by simp [World.cell?, hr]
  have c6 : w2.cell? ⟨w.heap.size, 6, none⟩ = some (.int .u32 rf) := by simp [World.cell?, hr]
  have c7 : w2.cell? ⟨w.heap.size, 7, none⟩ = some (.int .u32 rt) := by simp [World.cell?, hr]
  have c8 : w2.cell? ⟨w.heap.size, 8, none⟩ = some (.bool rd) := by simp [World.cell?, hr]
  have c9 : w2.cell? ⟨w.heap.size, 9, none⟩ = some (.bool wr) := by simp [World.cell?, hr]
  have c10 : w2.cell? ⟨w.heap.size, 10, none⟩ = some (.int .i64 rk) := by simp [World.cell?, hr]
  have c11 : w2.cell? ⟨w.heap.size, 11, none⟩ = some (.bool lk) := by simp [World.cell?, hr]
  have hlt : w.heap.size < w2.heap.size := by have := hB.size; simp at this; omega
  clear hr hcl hc0 hc1 hS hB hne hn0 hn7
  go_wp2_with (first | (go_at_call 216; (with_reducible refine (within_any 99 rw _ _ _ ?_ ?_).mono ?_); (· simp; done); (· simp; done); rintro e w3 ⟨rfl, hb3⟩; have hz3 := hb3.size; simp at hz3; have hcc := below_cell hb3; have hlt3 : w.heap.size < w3.heap.size := by omega) | (go_at_call 216; (with_reducible refine (within_any 999 rk _ _ _ ?_ ?_).mono ?_); (· simp; done); (· simp; done); rintro e w3 ⟨rfl, hb3⟩; have hz3 := hb3.size; simp at hz3; have hcc := below_cell hb3; have hlt3 : w.heap.size < w3.heap.size := by omega) | (go_at_call 216; (with_reducible refine (within_any 99 wo _ _ _ ?_ ?_).mono ?_); (· simp; done); (· simp; done); rintro e w3 ⟨rfl, hb3⟩; have hz3 := hb3.size; simp at hz3; have hcc := below_cell hb3; have hlt3 : w.heap.size < w3.heap.size := by omega) | (go_at_call 216; (with_reducible refine (within_any 99 li _ _ _ ?_ ?_).mono ?_); (· simp; done); (· simp; done); rintro e w3 ⟨rfl, hb3⟩; have hz3 := hb3.size; simp at hz3; have hcc := below_cell hb3; have hlt3 : w.heap.size < w3.heap.size := by omega) | (go_at_call 216; (with_reducible refine (within_any 99 0 _ _ _ ?_ ?_).mono ?_); (· simp; done); (· simp; done); rintro e w3 ⟨rfl, hb3⟩; have hz3 := hb3.size; simp at hz3; have hcc := below_cell hb3; have hlt3 : w.heap.size < w3.heap.size := by omega))
  go_ret
  exact ⟨by first | rfl | (simp [*]; done) | (simp <;> omega), (by repeat (first | exact Below.refl _ _ | refine Below.drew ?_ | refine Below.alloc ?_ (by first | omega | (simp <;> omega)) _ | (refine Below.trans ?_ (Below.mono (by assumption) (by first | omega | (simp <;> omega))))))⟩
/-- Whether a command can be said. -/
def cmdRight (c : Cmd) : Bool :=
  decide (1 ≤ c.k) && (decide (c.k ≤ 7) && (eqCmd c (cmdNamed c) && (inB 999 c.ix && (if c.k = 1 then c.reg.on && (inB 99 c.reg.rw && inB 999 c.reg.rk) else inB 99 c.wo && decide (-1 ≤ c.li) && decide (c.li ≤ 99)))))
set_option maxRecDepth 100000 in
set_option maxHeartbeats 1000000 in
theorem right_any (k ix wo li rw rf rt rk : Int) (on rd wr lk : Bool) (w : World) :
    Calls Tryz.prog 129 #[.agg #[.int .i64 k, .int .i64 ix, .int .i64 wo, .int .i64 li, .bool on, .int .i64 rw, .int .u32 rf, .int .u32 rt, .bool rd, .bool wr, .int .i64 rk, .bool lk]] w fun e w' => e = .returned (.bool (cmdRight ⟨k, ix, wo, li, ⟨on, rw, rf, rt, rd, wr, rk, lk⟩⟩)) ∧ Below w.heap.size w w' := by
  obtain ⟨n, hn⟩ : ∃ n, cmdNamed ⟨k, ix, wo, li, ⟨on, rw, rf, rt, rd, wr, rk, lk⟩⟩ = n := ⟨_, rfl⟩
  have hn' : Hid (cmdNamed ⟨k, ix, wo, li, ⟨on, rw, rf, rt, rd, wr, rk, lk⟩⟩ = n) := hn
  have hi0 : inB 99 0 = true := by simp [inB]
  by_cases h0 : k < 1
  · have e : cmdRight ⟨k, ix, wo, li, ⟨on, rw, rf, rt, rd, wr, rk, lk⟩⟩ = false := by simp [cmdRight]; omega
    rw [e]; exact right_lo k ix wo li rw rf rt rk on rd wr lk n hn' w h0
  by_cases h7 : 7 < k
  · have e : cmdRight ⟨k, ix, wo, li, ⟨on, rw, rf, rt, rd, wr, rk, lk⟩⟩ = false := by simp [cmdRight]; omega
    rw [e]; exact right_hi k ix wo li rw rf rt rk on rd wr lk n hn' w h7
  have a0 : 1 ≤ k := by omega
  have a7 : k ≤ 7 := by omega
  have d0 : decide (1 ≤ k) = true := by simpa using a0
  have d7 : decide (k ≤ 7) = true := by simpa using a7
  cases he : eqCmd ⟨k, ix, wo, li, ⟨on, rw, rf, rt, rd, wr, rk, lk⟩⟩ n with
  | false =>
    have e : cmdRight ⟨k, ix, wo, li, ⟨on, rw, rf, rt, rd, wr, rk, lk⟩⟩ = false := by simp only [cmdRight, hn, he, Bool.false_and, Bool.and_false]
    rw [e]; exact right_bad k ix wo li rw rf rt rk on rd wr lk n hn' w a0 a7 he
  | true =>
  cases hx : inB 999 ix with
  | false =>
    have e : cmdRight ⟨k, ix, wo, li, ⟨on, rw, rf, rt, rd, wr, rk, lk⟩⟩ = false := by simp only [cmdRight, hx, Bool.false_and, Bool.and_false]
    rw [e]; exact right_ix k ix wo li rw rf rt rk on rd wr lk n hn' w a0 a7 hx he
  | true =>
  have e0 : cmdRight ⟨k, ix, wo, li, ⟨on, rw, rf, rt, rd, wr, rk, lk⟩⟩ = (if k = 1 then on && (inB 99 rw && inB 999 rk) else inB 99 wo && decide (-1 ≤ li) && decide (li ≤ 99)) := by
    simp only [cmdRight, hn, he, hx, d0, d7, Bool.true_and]
  rw [e0]
  by_cases hk : k = 1
  · subst hk
    rw [if_pos rfl]
    cases on with
    | false => exact right_1off ix wo li rw rf rt rk rd wr lk n hn' w hx he
    | true =>
    cases hr : inB 99 rw with
    | false => exact right_1rw ix wo li rw rf rt rk rd wr lk n hn' w hx hr he
    | true => simpa using right_1ok ix wo li rw rf rt rk rd wr lk n hn' w hx hr he
  · rw [if_neg hk]
    have hk' : (k == 1) = false := by simpa using hk
    cases hw : inB 99 wo with
    | false => exact right_wo k ix wo li rw rf rt rk on rd wr lk n hn' w a0 a7 hx hk' hw he
    | true =>
    by_cases hl : li < 0
    · by_cases hl1 : li < -1
      · have e : (true && decide (-1 ≤ li) && decide (li ≤ 99)) = false := by simp; omega
        rw [e]; exact right_noN k ix wo li rw rf rt rk on rd wr lk n hn' w a0 a7 hx hk' hw hl hl1 hi0 he
      · have e : (true && decide (-1 ≤ li) && decide (li ≤ 99)) = true := by simp; omega
        rw [e]; exact right_okN k ix wo li rw rf rt rk on rd wr lk n hn' w a0 a7 hx hk' hw hl (by omega) hi0 he
    · cases hb : inB 99 li with
      | false =>
        have e : (true && decide (-1 ≤ li) && decide (li ≤ 99)) = false := by simp [inB] at hb ⊢; omega
        rw [e]; exact right_liN k ix wo li rw rf rt rk on rd wr lk n hn' w a0 a7 hx hk' hw hl hb he
      | true =>
        have e : (true && decide (-1 ≤ li) && decide (li ≤ 99)) = true := by simp [inB] at hb ⊢; omega
        rw [e]; exact right_okP k ix wo li rw rf rt rk on rd wr lk n hn' w a0 a7 hx hk' hw hl (by omega) hb he
end Go.Proofs.YtmjojlacpgdomaaGreatDoor
