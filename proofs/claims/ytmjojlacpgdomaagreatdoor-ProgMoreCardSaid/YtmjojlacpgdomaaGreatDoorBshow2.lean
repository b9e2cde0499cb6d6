import Derived.Test.YtmjojlacpgdomaaGreatDoorBown2
/-! conf.Show: Kinds 2 to 5 -/
namespace Go.Proofs.YtmjojlacpgdomaaGreatDoor
set_option linter.unusedSimpArgs false
set_option linter.unusedVariables false
open Go Go.RowKit
attribute [local go_sem] setRow_new setRow_old
attribute [local go_sem ↓] ldOp29
attribute [local go_sem] isRowV_ptr blockV_ptr
set_option maxRecDepth 100000 in
set_option maxHeartbeats 2000000 in
theorem show_2 (ix : Int) (w : World) (hG : Glob w) (hcr : Hid (cmdRight ⟨2, ix, 0, 0, ⟨false, 0, 0, 0, false, false, 0, false⟩⟩ = true)) (hix0 : 0 ≤ ix) (hix1 : ix ≤ 999) (hlen : (Lib.join [[99, 108, 101, 97, 114], Lib.itoa ix] [32]).length ≤ 140737488355328) :
    Calls Tryz.prog 61 #[.agg #[.int .i64 2, .int .i64 ix, .int .i64 0, .int .i64 0, .bool false, .int .i64 0, .int .u32 0, .int .u32 0, .bool false, .bool false, .int .i64 0, .bool false]] w fun e w' => e = .returned (.tuple #[str (Lib.join [[99, 108, 101, 97, 114], Lib.itoa ix] [32]), .int .i64 0]) ∧ Below w.heap.size w w' := by
  have hcall := fun W => right_any 2 ix 0 0 0 0 0 0 false false false false W
  rw [hcr.out] at hcall
  clear hcr
  have hlen' := Lib.hid hlen
  clear hlen
  go_enter Tryz.func61, Tryz.ntmps61
  go_wp2_with (first | ((with_reducible refine wpl_load 31 _ rfl ?_ w.heap.size 0 ?_ _ _ (CellsAt.new _ _ _) Tryz.underlying31 rfl (by kernel_rfl) ?_); (· rfl); (· rfl)) | (go_at_call 129; (with_reducible refine (hcall _).mono ?_); rintro e w1 ⟨rfl, hb1⟩; have hrow1 := (hb1.block w.heap.size (by simp)).trans (heap_alloc_new w _); have hs1 := hb1.size; simp at hs1))
  have hB1 : Below w.heap.size w w1 := ((Below.refl _ _).alloc (Nat.le_refl _) _).trans (hb1.mono (by simp))
  have hc10 := rowc hrow1 0
  simp only [List.getElem?_cons_zero] at hc10
  refine region_start (S := (fun W => Below w1.heap.size w1 W)) 7 rfl #[false, false, false, false, false, false, false] rfl (by kernel_rfl) ?_
  refine region_s ?_ ?_
  · (show Below _ _ _; repeat (first | exact Below.refl _ _ | assumption | refine Below.drew ?_ | refine Below.alloc ?_ (by first | omega | (simp; done) | (simp; omega) | (simp [World.setCell]; omega)) _ | refine Below.setCell ?_ (by first | omega | (simp; done) | (simp; omega) | (simp [World.setCell]; omega)) _ | refine below_setRow ?_ (by first | omega | (simp; done) | (simp; omega) | (simp [World.setCell]; omega)) _ | (refine Below.trans ?_ (Below.mono (by assumption) (by first | omega | (simp; done) | (simp; omega) | (simp [World.setCell]; omega))))))
  intro hS
  refine region_take (i := 1) (oi := ⟨(some 10), (Op.fieldAddr 31 (Operand.tmp 1) 0), 0, _, _, none⟩) (v := ?_) #[false, true, false, false, false, false, false] rfl (by kernel_rfl) (by kernel_rfl) (by kernel_rfl) (fun _ _ _ h => h) hS ?_ rfl ?_
  rotate_left
  · refine Or.inl ⟨rfl, fun W hW => ?_⟩
    dsimp only at hW
    have hx0 := (hW.cell (p := ⟨w.heap.size, 0, none⟩) (show w.heap.size < _ by omega)).trans hc10
    go_simp
    try rfl
  try simp only [Act.put, List.setIfInBounds_toArray, List.set_cons_zero, List.set_cons_succ]
  refine region_take (i := 2) (oi := ⟨(some 11), (Op.load 25 (Operand.tmp 10)), 25, _, _, none⟩) (v := ?_) #[false, true, true, false, false, false, false] rfl (by kernel_rfl) (by kernel_rfl) (by kernel_rfl) (fun _ _ _ h => h) hS ?_ rfl ?_
  rotate_left
  · refine Or.inl ⟨rfl, fun W hW => ?_⟩
    dsimp only at hW
    have hx0 := (hW.cell (p := ⟨w.heap.size, 0, none⟩) (show w.heap.size < _ by omega)).trans hc10
    go_simp
    try rfl
  try simp only [Act.put, List.setIfInBounds_toArray, List.set_cons_zero, List.set_cons_succ]
  refine region_op (i := 0) (oi := ⟨(some 9), (Op.call { callee := (Callee.value (Operand.func 130)), args := #[], argTypes := #[] }), 43, _, _, none⟩) #[true, true, true, false, false, false, false] rfl (by kernel_rfl) rfl rfl ?_
  intro K hK
  go_simp; refine (kinds_any _).mono ?_; rintro e w2 ⟨rfl, rfl⟩
  refine hK _ _ ⟨?_, fun hS => ?_⟩
  · (show Below _ _ _; repeat (first | exact Below.refl _ _ | assumption | refine Below.drew ?_ | refine Below.alloc ?_ (by first | omega | (simp; done) | (simp; omega) | (simp [World.setCell]; omega)) _ | refine Below.setCell ?_ (by first | omega | (simp; done) | (simp; omega) | (simp [World.setCell]; omega)) _ | refine below_setRow ?_ (by first | omega | (simp; done) | (simp; omega) | (simp [World.setCell]; omega)) _ | (refine Below.trans ?_ (Below.mono (by assumption) (by first | omega | (simp; done) | (simp; omega) | (simp [World.setCell]; omega))))))
  try simp only [Act.put, List.setIfInBounds_toArray, List.set_cons_zero, List.set_cons_succ]
  refine region_op (i := 3) (oi := ⟨(some 12), (Op.indexAddr 43 (Operand.tmp 9) (Operand.tmp 11)), 0, _, _, none⟩) #[true, true, true, true, false, false, false] rfl (by kernel_rfl) rfl rfl ?_
  intro K hK
  go_simp
  refine hK _ _ ⟨?_, fun hS => ?_⟩
  · (show Below _ _ _; repeat (first | exact Below.refl _ _ | assumption | refine Below.drew ?_ | refine Below.alloc ?_ (by first | omega | (simp; done) | (simp; omega) | (simp [World.setCell]; omega)) _ | refine Below.setCell ?_ (by first | omega | (simp; done) | (simp; omega) | (simp [World.setCell]; omega)) _ | refine below_setRow ?_ (by first | omega | (simp; done) | (simp; omega) | (simp [World.setCell]; omega)) _ | (refine Below.trans ?_ (Below.mono (by assumption) (by first | omega | (simp; done) | (simp; omega) | (simp [World.setCell]; omega))))))
  try simp only [Act.put, List.setIfInBounds_toArray, List.set_cons_zero, List.set_cons_succ]
  refine region_op (i := 4) (oi := ⟨(some 13), (Op.load 9 (Operand.tmp 12)), 9, _, _, none⟩) #[true, true, true, true, true, false, false] rfl (by kernel_rfl) rfl rfl ?_
  intro K hK
  go_simp
  refine hK _ _ ⟨?_, fun hS => ?_⟩
  · (show Below _ _ _; repeat (first | exact Below.refl _ _ | assumption | refine Below.drew ?_ | refine Below.alloc ?_ (by first | omega | (simp; done) | (simp; omega) | (simp [World.setCell]; omega)) _ | refine Below.setCell ?_ (by first | omega | (simp; done) | (simp; omega) | (simp [World.setCell]; omega)) _ | refine below_setRow ?_ (by first | omega | (simp; done) | (simp; omega) | (simp [World.setCell]; omega)) _ | (refine Below.trans ?_ (Below.mono (by assumption) (by first | omega | (simp; done) | (simp; omega) | (simp [World.setCell]; omega))))))
  try simp only [Act.put, List.setIfInBounds_toArray, List.set_cons_zero, List.set_cons_succ]
  refine region_op (i := 5) (oi := ⟨(some 14), (Op.buildSlice 43 1 #[(0, (Operand.tmp 13))]), 43, _, _, none⟩) #[true, true, true, true, true, true, false] rfl (by kernel_rfl) rfl rfl ?_
  intro K hK
  go_simp
  refine hK _ _ ⟨?_, fun hS => ?_⟩
  · (show Below _ _ _; repeat (first | exact Below.refl _ _ | assumption | refine Below.drew ?_ | refine Below.alloc ?_ (by first | omega | (simp; done) | (simp; omega) | (simp [World.setCell]; omega)) _ | refine Below.setCell ?_ (by first | omega | (simp; done) | (simp; omega) | (simp [World.setCell]; omega)) _ | refine below_setRow ?_ (by first | omega | (simp; done) | (simp; omega) | (simp [World.setCell]; omega)) _ | (refine Below.trans ?_ (Below.mono (by assumption) (by first | omega | (simp; done) | (simp; omega) | (simp [World.setCell]; omega))))))
  try simp only [Act.put, List.setIfInBounds_toArray, List.set_cons_zero, List.set_cons_succ]
  refine region_take (i := 6) (oi := ⟨(some 4), (Op.assign (Operand.tmp 14)), 43, _, _, none⟩) (v := ?_) #[true, true, true, true, true, true, true] rfl (by kernel_rfl) (by kernel_rfl) (by kernel_rfl) (fun _ _ _ h => h) hS ?_ rfl ?_
  rotate_left
  · refine Or.inl ⟨rfl, fun W hW => ?_⟩
    dsimp only at hW
    have hx0 := (hW.cell (p := ⟨w.heap.size, 0, none⟩) (show w.heap.size < _ by omega)).trans hc10
    go_simp
    try rfl
  try simp only [Act.put, List.setIfInBounds_toArray, List.set_cons_zero, List.set_cons_succ]
  refine anyH_forget (F := (fun W => Below w1.heap.size w1 W ∧ Own W (w.heap.size + 1) (.slice (some ⟨w1.heap.size + 1, 0, none⟩) 1 1) [[99, 108, 101, 97, 114]])) ⟨hS, Own.at (by (try simp only [alloc_drew, heap_drew]; first | exact heap_alloc_new _ _ | exact hp1 _ _ _ | exact hp2 _ _ _ _ | exact hp3 _ _ _ _ _ | exact hq1 _ _ _ | exact hq2 _ _ _ _ | exact hq3 _ _ _ _ _ | exact hr2 _ _ _ _ | exact hr3 _ _ _ _ _ | (simp; done))) rfl (by omega) (by omega)⟩ ?_
  rintro w3 ⟨hB3, hown3⟩
  refine wpAnyH_done (by kernel_rfl) ?_ _
  skip
  have hrow3 := (hB3.block w.heap.size (by omega)).trans hrow1
  have hB3' := hB1.trans (hB3.mono (by omega))
  have hs3 := hB3.size
  have hG3 := hG.below hB3'
  have hc30 := rowc hrow3 0
  have hc31 := rowc hrow3 1
  simp only [List.getElem?_cons_zero, List.getElem?_cons_succ] at hc30 hc31
  clear hS hc10 hb1
  generalize hv3 : Value.slice (some ⟨w1.heap.size + 1, 0, none⟩) 1 1 = v3 at hown3 ⊢
  go_wp2_with (first | (go_at_call 59; (with_reducible refine (itoa_any ix (by omega) (by omega) w3 hG3).mono ?_); rintro e w4 ⟨rfl, hb4⟩; have hs4 := hb4.size; have hown4 := (hown3.below hb4).below ((Below.refl _ _).alloc (Nat.le_refl _) (.cells #[str (Lib.itoa ix)] 9)); have hrow4 := (Below.heap_alloc w4 (.cells #[str (Lib.itoa ix)] 9) _ (by omega)).trans ((hb4.block w.heap.size (by omega)).trans hrow3); clear hc30 hc31) | (at_builtin; refine wpl_app rfl (.tmp 18) (.tmp 22) rfl (w.heap.size + 1) v3 [[99, 108, 101, 97, 114]] [Lib.itoa ix] w4.heap.size 1 rfl rfl rfl hown4 (heap_alloc_new _ _) (by simp) (by simp; omega) ?_; intro v5 w5 hown5 hg5; simp only [List.cons_append, List.nil_append] at hown5; have hB5 := Own.grown hown4 hg5 (by simp; omega); have hrow5 := Own.keep hown4 hg5 hrow4 (by decide); have hs5 := hB5.size; simp at hs5; have hB5' : Below w.heap.size w w5 := ((hB3'.trans (hb4.mono (by omega))).alloc (by omega) _).trans (hB5.mono (by omega)); have hG5 := hG.below hB5'; have hc52 := rowc hrow5 2; have hc53 := rowc hrow5 3; have hc50 := rowc hrow5 0; simp only [List.getElem?_cons_zero, List.getElem?_cons_succ] at hc52 hc53 hc50) | ((with_reducible refine wpl_load 29 _ rfl ?_ w.heap.size 4 ?_ _ _ (CellsAt.sub hrow5 4 8) Tryz.underlying29 rfl ?_ ?_); (· rfl); (· rfl); (· kernel_rfl)) | ((guard_target =~ wpList _ _ _ [_] _ _); (refine wpl_store 29 _ _ rfl ?_ w5.heap.size 0 29 _ _ (heap_alloc_new w5 _) rfl rfl ?_ ?_ ?_ _ rfl ?_); (· rfl); (· kernel_rfl); (· simp); (· rfl); simp only [List.take, List.drop, List.nil_append, List.append_nil, List.cons_append, setRow_new]; have hown6 := hown5.below ((Below.refl _ _).alloc (Nat.le_refl _) (.cells #[.bool false, .int .i64 0, .int .u32 0, .int .u32 0, .bool false, .bool false, .int .i64 0, .bool false] 29)); have hrow6 := (Below.heap_alloc w5 (.cells #[.bool false, .int .i64 0, .int .u32 0, .int .u32 0, .bool false, .bool false, .int .i64 0, .bool false] 29) _ (by omega)).trans hrow5; have hB6 : Below w.heap.size w (w5.alloc (.cells #[.bool false, .int .i64 0, .int .u32 0, .int .u32 0, .bool false, .bool false, .int .i64 0, .bool false] 29)) := (hB5').alloc (by omega) _; have hG6 := hG.below hB6; have hc60 := rowc hrow6 0; have hc62 := rowc hrow6 2; have hc63 := rowc hrow6 3; simp only [List.getElem?_cons_zero, List.getElem?_cons_succ] at hc60 hc62 hc63) | (go_at_call 134; (with_reducible refine (cjoin_own (w5.alloc (.cells #[.bool false, .int .i64 0, .int .u32 0, .int .u32 0, .bool false, .bool false, .int .i64 0, .bool false] 29)) (w.heap.size + 1) v5 _ hown6 (by simp) hlen'.out).mono ?_); rintro e w9 ⟨rfl, hb9⟩))
  go_ret2
  exact ⟨rfl, hB6.trans (hb9.mono hB6.size)⟩
set_option maxRecDepth 100000 in
set_option maxHeartbeats 2000000 in
theorem show_3 (ix wo : Int) (w : World) (hG : Glob w) (hcr : Hid (cmdRight ⟨3, ix, wo, 0, ⟨false, 0, 0, 0, false, false, 0, false⟩⟩ = true)) (hix0 : 0 ≤ ix) (hix1 : ix ≤ 999) (hwo0 : 0 ≤ wo) (hwo1 : wo ≤ 99) (hlen : (Lib.join [[103, 105, 118, 101], Lib.itoa ix, Lib.itoa wo] [32]).length ≤ 140737488355328) :
    Calls Tryz.prog 61 #[.agg #[.int .i64 3, .int .i64 ix, .int .i64 wo, .int .i64 0, .bool false, .int .i64 0, .int .u32 0, .int .u32 0, .bool false, .bool false, .int .i64 0, .bool false]] w fun e w' => e = .returned (.tuple #[str (Lib.join [[103, 105, 118, 101], Lib.itoa ix, Lib.itoa wo] [32]), .int .i64 0]) ∧ Below w.heap.size w w' := by
  have hcall := fun W => right_any 3 ix wo 0 0 0 0 0 false false false false W
  rw [hcr.out] at hcall
  clear hcr
  have hlen' := Lib.hid hlen
  clear hlen
  go_enter Tryz.func61, Tryz.ntmps61
  go_wp2_with (first | ((with_reducible refine wpl_load 31 _ rfl ?_ w.heap.size 0 ?_ _ _ (CellsAt.new _ _ _) Tryz.underlying31 rfl (by kernel_rfl) ?_); (· rfl); (· rfl)) | (go_at_call 129; (with_reducible refine (hcall _).mono ?_); rintro e w1 ⟨rfl, hb1⟩; have hrow1 := (hb1.block w.heap.size (by simp)).trans (heap_alloc_new w _); have hs1 := hb1.size; simp at hs1))
  have hB1 : Below w.heap.size w w1 := ((Below.refl _ _).alloc (Nat.le_refl _) _).trans (hb1.mono (by simp))
  have hc10 := rowc hrow1 0
  simp only [List.getElem?_cons_zero] at hc10
  refine region_start (S := (fun W => Below w1.heap.size w1 W)) 7 rfl #[false, false, false, false, false, false, false] rfl (by kernel_rfl) ?_
  refine region_s ?_ ?_
  · (show Below _ _ _; repeat (first | exact Below.refl _ _ | assumption | refine Below.drew ?_ | refine Below.alloc ?_ (by first | omega | (simp; done) | (simp; omega) | (simp [World.setCell]; omega)) _ | refine Below.setCell ?_ (by first | omega | (simp; done) | (simp; omega) | (simp [World.setCell]; omega)) _ | refine below_setRow ?_ (by first | omega | (simp; done) | (simp; omega) | (simp [World.setCell]; omega)) _ | (refine Below.trans ?_ (Below.mono (by assumption) (by first | omega | (simp; done) | (simp; omega) | (simp [World.setCell]; omega))))))
  intro hS
  refine region_take (i := 1) (oi := ⟨(some 10), (Op.fieldAddr 31 (Operand.tmp 1) 0), 0, _, _, none⟩) (v := ?_) #[false, true, false, false, false, false, false] rfl (by kernel_rfl) (by kernel_rfl) (by kernel_rfl) (fun _ _ _ h => h) hS ?_ rfl ?_
  rotate_left
  · refine Or.inl ⟨rfl, fun W hW => ?_⟩
    dsimp only at hW
    have hx0 := (hW.cell (p := ⟨w.heap.size, 0, none⟩) (show w.heap.size < _ by omega)).trans hc10
    go_simp
    try rfl
  try simp only [Act.put, List.setIfInBounds_toArray, List.set_cons_zero, List.set_cons_succ]
  refine region_take (i := 2) (oi := ⟨(some 11), (Op.load 25 (Operand.tmp 10)), 25, _, _, none⟩) (v := ?_) #[false, true, true, false, false, false, false] rfl (by kernel_rfl) (by kernel_rfl) (by kernel_rfl) (fun _ _ _ h => h) hS ?_ rfl ?_
  rotate_left
  · refine Or.inl ⟨rfl, fun W hW => ?_⟩
    dsimp only at hW
    have hx0 := (hW.cell (p := ⟨w.heap.size, 0, none⟩) (show w.heap.size < _ by omega)).trans hc10
    go_simp
    try rfl
  try simp only [Act.put, List.setIfInBounds_toArray, List.set_cons_zero, List.set_cons_succ]
  refine region_op (i := 0) (oi := ⟨(some 9), (Op.call { callee := (Callee.value (Operand.func 130)), args := #[], argTypes := #[] }), 43, _, _, none⟩) #[true, true, true, false, false, false, false] rfl (by kernel_rfl) rfl rfl ?_
  intro K hK
  go_simp; refine (kinds_any _).mono ?_; rintro e w2 ⟨rfl, rfl⟩
  refine hK _ _ ⟨?_, fun hS => ?_⟩
  · (show Below _ _ _; repeat (first | exact Below.refl _ _ | assumption | refine Below.drew ?_ | refine Below.alloc ?_ (by first | omega | (simp; done) | (simp; omega) | (simp [World.setCell]; omega)) _ | refine Below.setCell ?_ (by first | omega | (simp; done) | (simp; omega) | (simp [World.setCell]; omega)) _ | refine below_setRow ?_ (by first | omega | (simp; done) | (simp; omega) | (simp [World.setCell]; omega)) _ | (refine Below.trans ?_ (Below.mono (by assumption) (by first | omega | (simp; done) | (simp; omega) | (simp [World.setCell]; omega))))))
  try simp only [Act.put, List.setIfInBounds_toArray, List.set_cons_zero, List.set_cons_succ]
  refine region_op (i := 3) (oi := ⟨(some 12), (Op.indexAddr 43 (Operand.tmp 9) (Operand.tmp 11)), 0, _, _, none⟩) #[true, true, true, true, false, false, false] rfl (by kernel_rfl) rfl rfl ?_
  intro K hK
  go_simp
  refine hK _ _ ⟨?_, fun hS => ?_⟩
  · (show Below _ _ _; repeat (first | exact Below.refl _ _ | assumption | refine Below.drew ?_ | refine Below.alloc ?_ (by first | omega | (simp; done) | (simp; omega) | (simp [World.setCell]; omega)) _ | refine Below.setCell ?_ (by first | omega | (simp; done) | (simp; omega) | (simp [World.setCell]; omega)) _ | refine below_setRow ?_ (by first | omega | (simp; done) | (simp; omega) | (simp [World.setCell]; omega)) _ | (refine Below.trans ?_ (Below.mono (by assumption) (by first | omega | (simp; done) | (simp; omega) | (simp [World.setCell]; omega))))))
  try simp only [Act.put, List.setIfInBounds_toArray, List.set_cons_zero, List.set_cons_succ]
  refine region_op (i := 4) (oi := ⟨(some 13), (Op.load 9 (Operand.tmp 12)), 9, _, _, none⟩) #[true, true, true, true, true, false, false] rfl (by kernel_rfl) rfl rfl ?_
  intro K hK
  go_simp
  refine hK _ _ ⟨?_, fun hS => ?_⟩
  · (show Below _ _ _; repeat (first | exact Below.refl _ _ | assumption | refine Below.drew ?_ | refine Below.alloc ?_ (by first | omega | (simp; done) | (simp; omega) | (simp [World.setCell]; omega)) _ | refine Below.setCell ?_ (by first | omega | (simp; done) | (simp; omega) | (simp [World.setCell]; omega)) _ | refine below_setRow ?_ (by first | omega | (simp; done) | (simp; omega) | (simp [World.setCell]; omega)) _ | (refine Below.trans ?_ (Below.mono (by assumption) (by first | omega | (simp; done) | (simp; omega) | (simp [World.setCell]; omega))))))
  try simp only [Act.put, List.setIfInBounds_toArray, List.set_cons_zero, List.set_cons_succ]
  refine region_op (i := 5) (oi := ⟨(some 14), (Op.buildSlice 43 1 #[(0, (Operand.tmp 13))]), 43, _, _, none⟩) #[true, true, true, true, true, true, false] rfl (by kernel_rfl) rfl rfl ?_
  intro K hK
  go_simp
  refine hK _ _ ⟨?_, fun hS => ?_⟩
  · (show Below _ _ _; repeat (first | exact Below.refl _ _ | assumption | refine Below.drew ?_ | refine Below.alloc ?_ (by first | omega | (simp; done) | (simp; omega) | (simp [World.setCell]; omega)) _ | refine Below.setCell ?_ (by first | omega | (simp; done) | (simp; omega) | (simp [World.setCell]; omega)) _ | refine below_setRow ?_ (by first | omega | (simp; done) | (simp; omega) | (simp [World.setCell]; omega)) _ | (refine Below.trans ?_ (Below.mono (by assumption) (by first | omega | (simp; done) | (simp; omega) | (simp [World.setCell]; omega))))))
  try simp only [Act.put, List.setIfInBounds_toArray, List.set_cons_zero, List.set_cons_succ]
  refine region_take (i := 6) (oi := ⟨(some 4), (Op.assign (Operand.tmp 14)), 43, _, _, none⟩) (v := ?_) #[true, true, true, true, true, true, true] rfl (by kernel_rfl) (by kernel_rfl) (by kernel_rfl) (fun _ _ _ h => h) hS ?_ rfl ?_
  rotate_left
  · refine Or.inl ⟨rfl, fun W hW => ?_⟩
    dsimp only at hW
    have hx0 := (hW.cell (p := ⟨w.heap.size, 0, none⟩) (show w.heap.size < _ by omega)).trans hc10
    go_simp
    try rfl
  try simp only [Act.put, List.setIfInBounds_toArray, List.set_cons_zero, List.set_cons_succ]
  refine anyH_forget (F := (fun W => Below w1.heap.size w1 W ∧ Own W (w.heap.size + 1) (.slice (some ⟨w1.heap.size + 1, 0, none⟩) 1 1) [[103, 105, 118, 101]])) ⟨hS, Own.at (by (try simp only [alloc_drew, heap_drew]; first | exact heap_alloc_new _ _ | exact hp1 _ _ _ | exact hp2 _ _ _ _ | exact hp3 _ _ _ _ _ | exact hq1 _ _ _ | exact hq2 _ _ _ _ | exact hq3 _ _ _ _ _ | exact hr2 _ _ _ _ | exact hr3 _ _ _ _ _ | (simp; done))) rfl (by omega) (by omega)⟩ ?_
  rintro w3 ⟨hB3, hown3⟩
  refine wpAnyH_done (by kernel_rfl) ?_ _
  skip
  have hrow3 := (hB3.block w.heap.size (by omega)).trans hrow1
  have hB3' := hB1.trans (hB3.mono (by omega))
  have hs3 := hB3.size
  have hG3 := hG.below hB3'
  have hc30 := rowc hrow3 0
  have hc31 := rowc hrow3 1
  simp only [List.getElem?_cons_zero, List.getElem?_cons_succ] at hc30 hc31
  clear hS hc10 hb1
  generalize hv3 : Value.slice (some ⟨w1.heap.size + 1, 0, none⟩) 1 1 = v3 at hown3 ⊢
  go_wp2_with (first | (go_at_call 59; (with_reducible refine (itoa_any ix (by omega) (by omega) w3 hG3).mono ?_); rintro e w4 ⟨rfl, hb4⟩; have hs4 := hb4.size; have hown4 := (hown3.below hb4).below ((Below.refl _ _).alloc (Nat.le_refl _) (.cells #[str (Lib.itoa ix)] 9)); have hrow4 := (Below.heap_alloc w4 (.cells #[str (Lib.itoa ix)] 9) _ (by omega)).trans ((hb4.block w.heap.size (by omega)).trans hrow3); clear hc30 hc31) | (at_builtin; refine wpl_app rfl (.tmp 18) (.tmp 22) rfl (w.heap.size + 1) v3 [[103, 105, 118, 101]] [Lib.itoa ix] w4.heap.size 1 rfl rfl rfl hown4 (heap_alloc_new _ _) (by simp) (by simp; omega) ?_; intro v5 w5 hown5 hg5; simp only [List.cons_append, List.nil_append] at hown5; have hB5 := Own.grown hown4 hg5 (by simp; omega); have hrow5 := Own.keep hown4 hg5 hrow4 (by decide); have hs5 := hB5.size; simp at hs5; have hB5' : Below w.heap.size w w5 := ((hB3'.trans (hb4.mono (by omega))).alloc (by omega) _).trans (hB5.mono (by omega)); have hG5 := hG.below hB5'; have hc52 := rowc hrow5 2; have hc53 := rowc hrow5 3; have hc50 := rowc hrow5 0; simp only [List.getElem?_cons_zero, List.getElem?_cons_succ] at hc52 hc53 hc50) | ((with_reducible refine wpl_load 29 _ rfl ?_ w.heap.size 4 ?_ _ _ (CellsAt.sub hrow5 4 8) Tryz.underlying29 rfl ?_ ?_); (· rfl); (· rfl); (· kernel_rfl)) | ((guard_target =~ wpList _ _ _ [_] _ _); (refine wpl_store 29 _ _ rfl ?_ w5.heap.size 0 29 _ _ (heap_alloc_new w5 _) rfl rfl ?_ ?_ ?_ _ rfl ?_); (· rfl); (· kernel_rfl); (· simp); (· rfl); simp only [List.take, List.drop, List.nil_append, List.append_nil, List.cons_append, setRow_new]; have hown6 := hown5.below ((Below.refl _ _).alloc (Nat.le_refl _) (.cells #[.bool false, .int .i64 0, .int .u32 0, .int .u32 0, .bool false, .bool false, .int .i64 0, .bool false] 29)); have hrow6 := (Below.heap_alloc w5 (.cells #[.bool false, .int .i64 0, .int .u32 0, .int .u32 0, .bool false, .bool false, .int .i64 0, .bool false] 29) _ (by omega)).trans hrow5; have hB6 : Below w.heap.size w (w5.alloc (.cells #[.bool false, .int .i64 0, .int .u32 0, .int .u32 0, .bool false, .bool false, .int .i64 0, .bool false] 29)) := (hB5').alloc (by omega) _; have hG6 := hG.below hB6; have hc60 := rowc hrow6 0; have hc62 := rowc hrow6 2; have hc63 := rowc hrow6 3; simp only [List.getElem?_cons_zero, List.getElem?_cons_succ] at hc60 hc62 hc63) | (go_at_call 59; (with_reducible refine (itoa_any wo (by omega) (by omega) (w5.alloc (.cells #[.bool false, .int .i64 0, .int .u32 0, .int .u32 0, .bool false, .bool false, .int .i64 0, .bool false] 29)) hG6).mono ?_); rintro e w7 ⟨rfl, hb7⟩; have hs7 := hb7.size; simp at hs7; have hown7 := (hown6.below hb7).below ((Below.refl _ _).alloc (Nat.le_refl _) (.cells #[str (Lib.itoa wo)] 9))) | (at_builtin; refine wpl_app rfl (.tmp 57) (.tmp 61) rfl (w.heap.size + 1) v5 [[103, 105, 118, 101], Lib.itoa ix] [Lib.itoa wo] w7.heap.size 1 rfl rfl rfl hown7 (heap_alloc_new _ _) (by simp) (by simp; omega) ?_; intro v8 w8 hown8 hg8; simp only [List.cons_append, List.nil_append] at hown8; have hB8 := Own.grown hown7 hg8 (by simp; omega); have hB8' : Below w.heap.size w w8 := ((hB6.trans (hb7.mono (by simp; omega))).alloc (by omega) _).trans (hB8.mono (by omega))) | (go_at_call 134; (with_reducible refine (cjoin_own w8 (w.heap.size + 1) v8 _ hown8 (by simp) hlen'.out).mono ?_); rintro e w9 ⟨rfl, hb9⟩))
  go_ret2
  exact ⟨rfl, hB8'.trans (hb9.mono hB8'.size)⟩
set_option maxRecDepth 100000 in
set_option maxHeartbeats 2000000 in
theorem show_4 (ix : Int) (w : World) (hG : Glob w) (hcr : Hid (cmdRight ⟨4, ix, 0, 0, ⟨false, 0, 0, 0, false, false, 0, false⟩⟩ = true)) (hix0 : 0 ≤ ix) (hix1 : ix ≤ 999) (hlen : (Lib.join [[116, 97, 107, 101], Lib.itoa ix] [32]).length ≤ 140737488355328) :
    Calls Tryz.prog 61 #[.agg #[.int .i64 4, .int .i64 ix, .int .i64 0, .int .i64 0, .bool false, .int .i64 0, .int .u32 0, .int .u32 0, .bool false, .bool false, .int .i64 0, .bool false]] w fun e w' => e = .returned (.tuple #[str (Lib.join [[116, 97, 107, 101], Lib.itoa ix] [32]), .int .i64 0]) ∧ Below w.heap.size w w' := by
  have hcall := fun W => right_any 4 ix 0 0 0 0 0 0 false false false false W
  rw [hcr.out] at hcall
  clear hcr
  have hlen' := Lib.hid hlen
  clear hlen
  go_enter Tryz.func61, Tryz.ntmps61
  go_wp2_with (first | ((with_reducible refine wpl_load 31 _ rfl ?_ w.heap.size 0 ?_ _ _ (CellsAt.new _ _ _) Tryz.underlying31 rfl (by kernel_rfl) ?_); (· rfl); (· rfl)) | (go_at_call 129; (with_reducible refine (hcall _).mono ?_); rintro e w1 ⟨rfl, hb1⟩; have hrow1 := (hb1.block w.heap.size (by simp)).trans (heap_alloc_new w _); have hs1 := hb1.size; simp at hs1))
  have hB1 : Below w.heap.size w w1 := ((Below.refl _ _).alloc (Nat.le_refl _) _).trans (hb1.mono (by simp))
  have hc10 := rowc hrow1 0
  simp only [List.getElem?_cons_zero] at hc10
  refine region_start (S := (fun W => Below w1.heap.size w1 W)) 7 rfl #[false, false, false, false, false, false, false] rfl (by kernel_rfl) ?_
  refine region_s ?_ ?_
  · (show Below _ _ _; repeat (first | exact Below.refl _ _ | assumption | refine Below.drew ?_ | refine Below.alloc ?_ (by first | omega | (simp; done) | (simp; omega) | (simp [World.setCell]; omega)) _ | refine Below.setCell ?_ (by first | omega | (simp; done) | (simp; omega) | (simp [World.setCell]; omega)) _ | refine below_setRow ?_ (by first | omega | (simp; done) | (simp; omega) | (simp [World.setCell]; omega)) _ | (refine Below.trans ?_ (Below.mono (by assumption) (by first | omega | (simp; done) | (simp; omega) | (simp [World.setCell]; omega))))))
  intro hS
  refine region_take (i := 1) (oi := ⟨(some 10), (Op.fieldAddr 31 (Operand.tmp 1) 0), 0, _, _, none⟩) (v := ?_) #[false, true, false, false, false, false, false] rfl (by kernel_rfl) (by kernel_rfl) (by kernel_rfl) (fun _ _ _ h => h) hS ?_ rfl ?_
  rotate_left
  · refine Or.inl ⟨rfl, fun W hW => ?_⟩
    dsimp only at hW
    have hx0 := (hW.cell (p := ⟨w.heap.size, 0, none⟩) (show w.heap.size < _ by omega)).trans hc10
    go_simp
    try rfl
  try simp only [Act.put, List.setIfInBounds_toArray, List.set_cons_zero, List.set_cons_succ]
  refine region_take (i := 2) (oi := ⟨(some 11), (Op.load 25 (Operand.tmp 10)), 25, _, _, none⟩) (v := ?_) #[false, true, true, false, false, false, false] rfl (by kernel_rfl) (by kernel_rfl) (by kernel_rfl) (fun _ _ _ h => h) hS ?_ rfl ?_
  rotate_left
  · refine Or.inl ⟨rfl, fun W hW => ?_⟩
    dsimp only at hW
    have hx0 := (hW.cell (p := ⟨w.heap.size, 0, none⟩) (show w.heap.size < _ by omega)).trans hc10
    go_simp
    try rfl
  try simp only [Act.put, List.setIfInBounds_toArray, List.set_cons_zero, List.set_cons_succ]
  refine region_op (i := 0) (oi := ⟨(some 9), (Op.call { callee := (Callee.value (Operand.func 130)), args := #[], argTypes := #[] }), 43, _, _, none⟩) #[true, true, true, false, false, false, false] rfl (by kernel_rfl) rfl rfl ?_
  intro K hK
  go_simp; refine (kinds_any _).mono ?_; rintro e w2 ⟨rfl, rfl⟩
  refine hK _ _ ⟨?_, fun hS => ?_⟩
  · (show Below _ _ _; repeat (first | exact Below.refl _ _ | assumption | refine Below.drew ?_ | refine Below.alloc ?_ (by first | omega | (simp; done) | (simp; omega) | (simp [World.setCell]; omega)) _ | refine Below.setCell ?_ (by first | omega | (simp; done) | (simp; omega) | (simp [World.setCell]; omega)) _ | refine below_setRow ?_ (by first | omega | (simp; done) | (simp; omega) | (simp [World.setCell]; omega)) _ | (refine Below.trans ?_ (Below.mono (by assumption) (by first | omega | (simp; done) | (simp; omega) | (simp [World.setCell]; omega))))))
  try simp only [Act.put, List.setIfInBounds_toArray, List.set_cons_zero, List.set_cons_succ]
  refine region_op (i := 3) (oi := ⟨(some 12), (Op.indexAddr 43 (Operand.tmp 9) (Operand.tmp 11)), 0, _, _, none⟩) #[true, true, true, true, false, false, false] rfl (by kernel_rfl) rfl rfl ?_
  intro K hK
  go_simp
  refine hK _ _ ⟨?_, fun hS => ?_⟩
  · (show Below _ _ _; repeat (first | exact Below.refl _ _ | assumption | refine Below.drew ?_ | refine Below.alloc ?_ (by first | omega | (simp; done) | (simp; omega) | (simp [World.setCell]; omega)) _ | refine Below.setCell ?_ (by first | omega | (simp; done) | (simp; omega) | (simp [World.setCell]; omega)) _ | refine below_setRow ?_ (by first | omega | (simp; done) | (simp; omega) | (simp [World.setCell]; omega)) _ | (refine Below.trans ?_ (Below.mono (by assumption) (by first | omega | (simp; done) | (simp; omega) | (simp [World.setCell]; omega))))))
  try simp only [Act.put, List.setIfInBounds_toArray, List.set_cons_zero, List.set_cons_succ]
  refine region_op (i := 4) (oi := ⟨(some 13), (Op.load 9 (Operand.tmp 12)), 9, _, _, none⟩) #[true, true, true, true, true, false, false] rfl (by kernel_rfl) rfl rfl ?_
  intro K hK
  go_simp
  refine hK _ _ ⟨?_, fun hS => ?_⟩
  · (show Below _ _ _; repeat (first | exact Below.refl _ _ | assumption | refine Below.drew ?_ | refine Below.alloc ?_ (by first | omega | (simp; done) | (simp; omega) | (simp [World.setCell]; omega)) _ | refine Below.setCell ?_ (by first | omega | (simp; done) | (simp; omega) | (simp [World.setCell]; omega)) _ | refine below_setRow ?_ (by first | omega | (simp; done) | (simp; omega) | (simp [World.setCell]; omega)) _ | (refine Below.trans ?_ (Below.mono (by assumption) (by first | omega | (simp; done) | (simp; omega) | (simp [World.setCell]; omega))))))
  try simp only [Act.put, List.setIfInBounds_toArray, List.set_cons_zero, List.set_cons_succ]
  refine region_op (i := 5) (oi := ⟨(some 14), (Op.buildSlice 43 1 #[(0, (Operand.tmp 13))]), 43, _, _, none⟩) #[true, true, true, true, true, true, false] rfl (by kernel_rfl) rfl rfl ?_
  intro K hK
  go_simp
  refine hK _ _ ⟨?_, fun hS => ?_⟩
  · (show Below _ _ _; repeat (first | exact Below.refl _ _ | assumption | refine Below.drew ?_ | refine Below.alloc ?_ (by first | omega | (simp; done) | (simp; omega) | (simp [World.setCell]; omega)) _ | refine Below.setCell ?_ (by first | omega | (simp; done) | (simp; omega) | (simp [World.setCell]; omega)) _ | refine below_setRow ?_ (by first | omega | (simp; done) | (simp; omega) | (simp [World.setCell]; omega)) _ | (refine Below.trans ?_ (Below.mono (by assumption) (by first | omega | (simp; done) | (simp; omega) | (simp [World.setCell]; omega))))))
  try simp only [Act.put, List.setIfInBounds_toArray, List.set_cons_zero, List.set_cons_succ]
  refine region_take (i := 6) (oi := ⟨(some 4), (Op.assign (Operand.tmp 14)), 43, _, _, none⟩) (v := ?_) #[true, true, true, true, true, true, true] rfl (by kernel_rfl) (by kernel_rfl) (by kernel_rfl) (fun _ _ _ h => h) hS ?_ rfl ?_
  rotate_left
  · refine Or.inl ⟨rfl, fun W hW => ?_⟩
    dsimp only at hW
    have hx0 := (hW.cell (p := ⟨w.heap.size, 0, none⟩) (show w.heap.size < _ by omega)).trans hc10
    go_simp
    try rfl
  try simp only [Act.put, List.setIfInBounds_toArray, List.set_cons_zero, List.set_cons_succ]
  refine anyH_forget (F := (fun W => Below w1.heap.size w1 W ∧ Own W (w.heap.size + 1) (.slice (some ⟨w1.heap.size + 1, 0, none⟩) 1 1) [[116, 97, 107, 101]])) ⟨hS, Own.at (by (try simp only [alloc_drew, heap_drew]; first | exact heap_alloc_new _ _ | exact hp1 _ _ _ | exact hp2 _ _ _ _ | exact hp3 _ _ _ _ _ | exact hq1 _ _ _ | exact hq2 _ _ _ _ | exact hq3 _ _ _ _ _ | exact hr2 _ _ _ _ | exact hr3 _ _ _ _ _ | (simp; done))) rfl (by omega) (by omega)⟩ ?_
  rintro w3 ⟨hB3, hown3⟩
  refine wpAnyH_done (by kernel_rfl) ?_ _
  skip
  have hrow3 := (hB3.block w.heap.size (by omega)).trans hrow1
  have hB3' := hB1.trans (hB3.mono (by omega))
  have hs3 := hB3.size
  have hG3 := hG.below hB3'
  have hc30 := rowc hrow3 0
  have hc31 := rowc hrow3 1
  simp only [List.getElem?_cons_zero, List.getElem?_cons_succ] at hc30 hc31
  clear hS hc10 hb1
  generalize hv3 : Value.slice (some ⟨w1.heap.size + 1, 0, none⟩) 1 1 = v3 at hown3 ⊢
  go_wp2_with (first | (go_at_call 59; (with_reducible refine (itoa_any ix (by omega) (by omega) w3 hG3).mono ?_); rintro e w4 ⟨rfl, hb4⟩; have hs4 := hb4.size; have hown4 := (hown3.below hb4).below ((Below.refl _ _).alloc (Nat.le_refl _) (.cells #[str (Lib.itoa ix)] 9)); have hrow4 := (Below.heap_alloc w4 (.cells #[str (Lib.itoa ix)] 9) _ (by omega)).trans ((hb4.block w.heap.size (by omega)).trans hrow3); clear hc30 hc31) | (at_builtin; refine wpl_app rfl (.tmp 18) (.tmp 22) rfl (w.heap.size + 1) v3 [[116, 97, 107, 101]] [Lib.itoa ix] w4.heap.size 1 rfl rfl rfl hown4 (heap_alloc_new _ _) (by simp) (by simp; omega) ?_; intro v5 w5 hown5 hg5; simp only [List.cons_append, List.nil_append] at hown5; have hB5 := Own.grown hown4 hg5 (by simp; omega); have hrow5 := Own.keep hown4 hg5 hrow4 (by decide); have hs5 := hB5.size; simp at hs5; have hB5' : Below w.heap.size w w5 := ((hB3'.trans (hb4.mono (by omega))).alloc (by omega) _).trans (hB5.mono (by omega)); have hG5 := hG.below hB5'; have hc52 := rowc hrow5 2; have hc53 := rowc hrow5 3; have hc50 := rowc hrow5 0; simp only [List.getElem?_cons_zero, List.getElem?_cons_succ] at hc52 hc53 hc50) | ((with_reducible refine wpl_load 29 _ rfl ?_ w.heap.size 4 ?_ _ _ (CellsAt.sub hrow5 4 8) Tryz.underlying29 rfl ?_ ?_); (· rfl); (· rfl); (· kernel_rfl)) | ((guard_target =~ wpList _ _ _ [_] _ _); (refine wpl_store 29 _ _ rfl ?_ w5.heap.size 0 29 _ _ (heap_alloc_new w5 _) rfl rfl ?_ ?_ ?_ _ rfl ?_); (· rfl); (· kernel_rfl); (· simp); (· rfl); simp only [List.take, List.drop, List.nil_append, List.append_nil, List.cons_append, setRow_new]; have hown6 := hown5.below ((Below.refl _ _).alloc (Nat.le_refl _) (.cells #[.bool false, .int .i64 0, .int .u32 0, .int .u32 0, .bool false, .bool false, .int .i64 0, .bool false] 29)); have hrow6 := (Below.heap_alloc w5 (.cells #[.bool false, .int .i64 0, .int .u32 0, .int .u32 0, .bool false, .bool false, .int .i64 0, .bool false] 29) _ (by omega)).trans hrow5; have hB6 : Below w.heap.size w (w5.alloc (.cells #[.bool false, .int .i64 0, .int .u32 0, .int .u32 0, .bool false, .bool false, .int .i64 0, .bool false] 29)) := (hB5').alloc (by omega) _; have hG6 := hG.below hB6; have hc60 := rowc hrow6 0; have hc62 := rowc hrow6 2; have hc63 := rowc hrow6 3; simp only [List.getElem?_cons_zero, List.getElem?_cons_succ] at hc60 hc62 hc63) | (go_at_call 134; (with_reducible refine (cjoin_own (w5.alloc (.cells #[.bool false, .int .i64 0, .int .u32 0, .int .u32 0, .bool false, .bool false, .int .i64 0, .bool false] 29)) (w.heap.size + 1) v5 _ hown6 (by simp) hlen'.out).mono ?_); rintro e w9 ⟨rfl, hb9⟩))
  go_ret2
  exact ⟨rfl, hB6.trans (hb9.mono hB6.size)⟩
set_option maxRecDepth 100000 in
set_option maxHeartbeats 2000000 in
theorem show_5 (ix wo : Int) (w : World) (hG : Glob w) (hcr : Hid (cmdRight ⟨5, ix, wo, 0, ⟨false, 0, 0, 0, false, false, 0, false⟩⟩ = true)) (hix0 : 0 ≤ ix) (hix1 : ix ≤ 999) (hwo0 : 0 ≤ wo) (hwo1 : wo ≤ 99) (hlen : (Lib.join [[109, 111, 118, 101], Lib.itoa ix, Lib.itoa wo] [32]).length ≤ 140737488355328) :
    Calls Tryz.prog 61 #[.agg #[.int .i64 5, .int .i64 ix, .int .i64 wo, .int .i64 0, .bool false, .int .i64 0, .int .u32 0, .int .u32 0, .bool false, .bool false, .int .i64 0, .bool false]] w fun e w' => e = .returned (.tuple #[str (Lib.join [[109, 111, 118, 101], Lib.itoa ix, Lib.itoa wo] [32]), .int .i64 0]) ∧ Below w.heap.size w w' := by
  have hcall := fun W => right_any 5 ix wo 0 0 0 0 0 false false false false W
  rw [hcr.out] at hcall
  clear hcr
  have hlen' := Lib.hid hlen
  clear hlen
  go_enter Tryz.func61, Tryz.ntmps61
  go_wp2_with (first | ((with_reducible refine wpl_load 31 _ rfl ?_ w.heap.size 0 ?_ _ _ (CellsAt.new _ _ _) Tryz.underlying31 rfl (by kernel_rfl) ?_); (· rfl); (· rfl)) | (go_at_call 129; (with_reducible refine (hcall _).mono ?_); rintro e w1 ⟨rfl, hb1⟩; have hrow1 := (hb1.block w.heap.size (by simp)).trans (heap_alloc_new w _); have hs1 := hb1.size; simp at hs1))
  have hB1 : Below w.heap.size w w1 := ((Below.refl _ _).alloc (Nat.le_refl _) _).trans (hb1.mono (by simp))
  have hc10 := rowc hrow1 0
  simp only [List.getElem?_cons_zero] at hc10
  refine region_start (S := (fun W => Below w1.heap.size w1 W)) 7 rfl #[false, false, false, false, false, false, false] rfl (by kernel_rfl) ?_
  refine region_s ?_ ?_
  · (show Below _ _ _; repeat (first | exact Below.refl _ _ | assumption | refine Below.drew ?_ | refine Below.alloc ?_ (by first | omega | (simp; done) | (simp; omega) | (simp [World.setCell]; omega)) _ | refine Below.setCell ?_ (by first | omega | (simp; done) | (simp; omega) | (simp [World.setCell]; omega)) _ | refine below_setRow ?_ (by first | omega | (simp; done) | (simp; omega) | (simp [World.setCell]; omega)) _ | (refine Below.trans ?_ (Below.mono (by assumption) (by first | omega | (simp; done) | (simp; omega) | (simp [World.setCell]; omega))))))
  intro hS
  refine region_take (i := 1) (oi := ⟨(some 10), (Op.fieldAddr 31 (Operand.tmp 1) 0), 0, _, _, none⟩) (v := ?_) #[false, true, false, false, false, false, false] rfl (by kernel_rfl) (by kernel_rfl) (by kernel_rfl) (fun _ _ _ h => h) hS ?_ rfl ?_
  rotate_left
  · refine Or.inl ⟨rfl, fun W hW => ?_⟩
    dsimp only at hW
    have hx0 := (hW.cell (p := ⟨w.heap.size, 0, none⟩) (show w.heap.size < _ by omega)).trans hc10
    go_simp
    try rfl
  try simp only [Act.put, List.setIfInBounds_toArray, List.set_cons_zero, List.set_cons_succ]
  refine region_take (i := 2) (oi := ⟨(some 11), (Op.load 25 (Operand.tmp 10)), 25, _, _, none⟩) (v := ?_) #[false, true, true, false, false, false, false] rfl (by kernel_rfl) (by kernel_rfl) (by kernel_rfl) (fun _ _ _ h => h) hS ?_ rfl ?_
  rotate_left
  · refine Or.inl ⟨rfl, fun W hW => ?_⟩
    dsimp only at hW
    have hx0 := (hW.cell (p := ⟨w.heap.size, 0, none⟩) (show w.heap.size < _ by omega)).trans hc10
    go_simp
    try rfl
  try simp only [Act.put, List.setIfInBounds_toArray, List.set_cons_zero, List.set_cons_succ]
  refine region_op (i := 0) (oi := ⟨(some 9), (Op.call { callee := (Callee.value (Operand.func 130)), args := #[], argTypes := #[] }), 43, _, _, none⟩) #[true, true, true, false, false, false, false] rfl (by kernel_rfl) rfl rfl ?_
  intro K hK
  go_simp; refine (kinds_any _).mono ?_; rintro e w2 ⟨rfl, rfl⟩
  refine hK _ _ ⟨?_, fun hS => ?_⟩
  · (show Below _ _ _; repeat (first | exact Below.refl _ _ | assumption | refine Below.drew ?_ | refine Below.alloc ?_ (by first | omega | (simp; done) | (simp; omega) | (simp [World.setCell]; omega)) _ | refine Below.setCell ?_ (by first | omega | (simp; done) | (simp; omega) | (simp [World.setCell]; omega)) _ | refine below_setRow ?_ (by first | omega | (simp; done) | (simp; omega) | (simp [World.setCell]; omega)) _ | (refine Below.trans ?_ (Below.mono (by assumption) (by first | omega | (simp; done) | (simp; omega) | (simp [World.setCell]; omega))))))
  try simp only [Act.put, List.setIfInBounds_toArray, List.set_cons_zero, List.set_cons_succ]
  refine region_op (i := 3) (oi := ⟨(some 12), (Op.indexAddr 43 (Operand.tmp 9) (Operand.tmp 11)), 0, _, _, none⟩) #[true, true, true, true, false, false, false] rfl (by kernel_rfl) rfl rfl ?_
  intro K hK
  go_simp
  refine hK _ _ ⟨?_, fun hS => ?_⟩
  · (show Below _ _ _; repeat (first | exact Below.refl _ _ | assumption | refine Below.drew ?_ | refine Below.alloc ?_ (by first | omega | (simp; done) | (simp; omega) | (simp [World.setCell]; omega)) _ | refine Below.setCell ?_ (by first | omega | (simp; done) | (simp; omega) | (simp [World.setCell]; omega)) _ | refine below_setRow ?_ (by first | omega | (simp; done) | (simp; omega) | (simp [World.setCell]; omega)) _ | (refine Below.trans ?_ (Below.mono (by assumption) (by first | omega | (simp; done) | (simp; omega) | (simp [World.setCell]; omega))))))
  try simp only [Act.put, List.setIfInBounds_toArray, List.set_cons_zero, List.set_cons_succ]
  refine region_op (i := 4) (oi := ⟨(some 13), (Op.load 9 (Operand.tmp 12)), 9, _, _, none⟩) #[true, true, true, true, true, false, false] rfl (by kernel_rfl) rfl rfl ?_
  intro K hK
  go_simp
  refine hK _ _ ⟨?_, fun hS => ?_⟩
  · (show Below _ _ _; repeat (first | exact Below.refl _ _ | assumption | refine Below.drew ?_ | refine Below.alloc ?_ (by first | omega | (simp; done) | (simp; omega) | (simp [World.setCell]; omega)) _ | refine Below.setCell ?_ (by first | omega | (simp; done) | (simp; omega) | (simp [World.setCell]; omega)) _ | refine below_setRow ?_ (by first | omega | (simp; done) | (simp; omega) | (simp [World.setCell]; omega)) _ | (refine Below.trans ?_ (Below.mono (by assumption) (by first | omega | (simp; done) | (simp; omega) | (simp [World.setCell]; omega))))))
  try simp only [Act.put, List.setIfInBounds_toArray, List.set_cons_zero, List.set_cons_succ]
  refine region_op (i := 5) (oi := ⟨(some 14), (Op.buildSlice 43 1 #[(0, (Operand.tmp 13))]), 43, _, _, none⟩) #[true, true, true, true, true, true, false] rfl (by kernel_rfl) rfl rfl ?_
  intro K hK
  go_simp
  refine hK _ _ ⟨?_, fun hS => ?_⟩
  · (show Below _ _ _; repeat (first | exact Below.refl _ _ | assumption | refine Below.drew ?_ | refine Below.alloc ?_ (by first | omega | (simp; done) | (simp; omega) | (simp [World.setCell]; omega)) _ | refine Below.setCell ?_ (by first | omega | (simp; done) | (simp; omega) | (simp [World.setCell]; omega)) _ | refine below_setRow ?_ (by first | omega | (simp; done) | (simp; omega) | (simp [World.setCell]; omega)) _ | (refine Below.trans ?_ (Below.mono (by assumption) (by first | omega | (simp; done) | (simp; omega) | (simp [World.setCell]; omega))))))
  try simp only [Act.put, List.setIfInBounds_toArray, List.set_cons_zero, List.set_cons_succ]
  refine region_take (i := 6) (oi := ⟨(some 4), (Op.assign (Operand.tmp 14)), 43, _, _, none⟩) (v := ?_) #[true, true, true, true, true, true, true] rfl (by kernel_rfl) (by kernel_rfl) (by kernel_rfl) (fun _ _ _ h => h) hS ?_ rfl ?_
  rotate_left
  · refine Or.inl ⟨rfl, fun W hW => ?_⟩
    dsimp only at hW
    have hx0 := (hW.cell (p := ⟨w.heap.size, 0, none⟩) (show w.heap.size < _ by omega)).trans hc10
    go_simp
    try rfl
  try simp only [Act.put, List.setIfInBounds_toArray, List.set_cons_zero, List.set_cons_succ]
  refine anyH_forget (F := (fun W => Below w1.heap.size w1 W ∧ Own W (w.heap.size + 1) (.slice (some ⟨w1.heap.size + 1, 0, none⟩) 1 1) [[109, 111, 118, 101]])) ⟨hS, Own.at (by (try simp only [alloc_drew, heap_drew]; first | exact heap_alloc_new _ _ | exact hp1 _ _ _ | exact hp2 _ _ _ _ | exact hp3 _ _ _ _ _ | exact hq1 _ _ _ | exact hq2 _ _ _ _ | exact hq3 _ _ _ _ _ | exact hr2 _ _ _ _ | exact hr3 _ _ _ _ _ | (simp; done))) rfl (by omega) (by omega)⟩ ?_
  rintro w3 ⟨hB3, hown3⟩
  refine wpAnyH_done (by kernel_rfl) ?_ _
  skip
  have hrow3 := (hB3.block w.heap.size (by omega)).trans hrow1
  have hB3' := hB1.trans (hB3.mono (by omega))
  have hs3 := hB3.size
  have hG3 := hG.below hB3'
  have hc30 := rowc hrow3 0
  have hc31 := rowc hrow3 1
  simp only [List.getElem?_cons_zero, List.getElem?_cons_succ] at hc30 hc31
  clear hS hc10 hb1
  generalize hv3 : Value.slice (some ⟨w1.heap.size + 1, 0, none⟩) 1 1 = v3 at hown3 ⊢
  go_wp2_with (first | (go_at_call 59; (with_reducible refine (itoa_any ix (by omega) (by omega) w3 hG3).mono ?_); rintro e w4 ⟨rfl, hb4⟩; have hs4 := hb4.size; have hown4 := (hown3.below hb4).below ((Below.refl _ _).alloc (Nat.le_refl _) (.cells #[str (Lib.itoa ix)] 9)); have hrow4 := (Below.heap_alloc w4 (.cells #[str (Lib.itoa ix)] 9) _ (by omega)).trans ((hb4.block w.heap.size (by omega)).trans hrow3); clear hc30 hc31) | (at_builtin; refine wpl_app rfl (.tmp 18) (.tmp 22) rfl (w.heap.size + 1) v3 [[109, 111, 118, 101]] [Lib.itoa ix] w4.heap.size 1 rfl rfl rfl hown4 (heap_alloc_new _ _) (by simp) (by simp; omega) ?_; intro v5 w5 hown5 hg5; simp only [List.cons_append, List.nil_append] at hown5; have hB5 := Own.grown hown4 hg5 (by simp; omega); have hrow5 := Own.keep hown4 hg5 hrow4 (by decide); have hs5 := hB5.size; simp at hs5; have hB5' : Below w.heap.size w w5 := ((hB3'.trans (hb4.mono (by omega))).alloc (by omega) _).trans (hB5.mono (by omega)); have hG5 := hG.below hB5'; have hc52 := rowc hrow5 2; have hc53 := rowc hrow5 3; have hc50 := rowc hrow5 0; simp only [List.getElem?_cons_zero, List.getElem?_cons_succ] at hc52 hc53 hc50) | ((with_reducible refine wpl_load 29 _ rfl ?_ w.heap.size 4 ?_ _ _ (CellsAt.sub hrow5 4 8) Tryz.underlying29 rfl ?_ ?_); (· rfl); (· rfl); (· kernel_rfl)) | ((guard_target =~ wpList _ _ _ [_] _ _); (refine wpl_store 29 _ _ rfl ?_ w5.heap.size 0 29 _ _ (heap_alloc_new w5 _) rfl rfl ?_ ?_ ?_ _ rfl ?_); (· rfl); (· kernel_rfl); (· simp); (· rfl); simp only [List.take, List.drop, List.nil_append, List.append_nil, List.cons_append, setRow_new]; have hown6 := hown5.below ((Below.refl _ _).alloc (Nat.le_refl _) (.cells #[.bool false, .int .i64 0, .int .u32 0, .int .u32 0, .bool false, .bool false, .int .i64 0, .bool false] 29)); have hrow6 := (Below.heap_alloc w5 (.cells #[.bool false, .int .i64 0, .int .u32 0, .int .u32 0, .bool false, .bool false, .int .i64 0, .bool false] 29) _ (by omega)).trans hrow5; have hB6 : Below w.heap.size w (w5.alloc (.cells #[.bool false, .int .i64 0, .int .u32 0, .int .u32 0, .bool false, .bool false, .int .i64 0, .bool false] 29)) := (hB5').alloc (by omega) _; have hG6 := hG.below hB6; have hc60 := rowc hrow6 0; have hc62 := rowc hrow6 2; have hc63 := rowc hrow6 3; simp only [List.getElem?_cons_zero, List.getElem?_cons_succ] at hc60 hc62 hc63) | (go_at_call 59; (with_reducible refine (itoa_any wo (by omega) (by omega) (w5.alloc (.cells #[.bool false, .int .i64 0, .int .u32 0, .int .u32 0, .bool false, .bool false, .int .i64 0, .bool false] 29)) hG6).mono ?_); rintro e w7 ⟨rfl, hb7⟩; have hs7 := hb7.size; simp at hs7; have hown7 := (hown6.below hb7).below ((Below.refl _ _).alloc (Nat.le_refl _) (.cells #[str (Lib.itoa wo)] 9))) | (at_builtin; refine wpl_app rfl (.tmp 57) (.tmp 61) rfl (w.heap.size + 1) v5 [[109, 111, 118, 101], Lib.itoa ix] [Lib.itoa wo] w7.heap.size 1 rfl rfl rfl hown7 (heap_alloc_new _ _) (by simp) (by simp; omega) ?_; intro v8 w8 hown8 hg8; simp only [List.cons_append, List.nil_append] at hown8; have hB8 := Own.grown hown7 hg8 (by simp; omega); have hB8' : Below w.heap.size w w8 := ((hB6.trans (hb7.mono (by simp; omega))).alloc (by omega) _).trans (hB8.mono (by omega))) | (go_at_call 134; (with_reducible refine (cjoin_own w8 (w.heap.size + 1) v8 _ hown8 (by simp) hlen'.out).mono ?_); rintro e w9 ⟨rfl, hb9⟩))
  go_ret2
  exact ⟨rfl, hB8'.trans (hb9.mono hB8'.size)⟩
end Go.Proofs.YtmjojlacpgdomaaGreatDoor
