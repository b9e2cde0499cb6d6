import Derived.Test.YtmjojlacpgdomaaGreatDoorBown2
/-! conf.Show: Kinds 6, 7, 1 -/
namespace Go.Proofs.YtmjojlacpgdomaaGreatDoor
set_option linter.unusedSimpArgs false
set_option linter.unusedVariables false
open Go Go.RowKit
attribute [local go_sem] setRow_new setRow_old
attribute [local go_sem ↓] ldOp29
attribute [local go_sem] isRowV_ptr blockV_ptr
set_option maxRecDepth 100000 in
set_option maxHeartbeats 2000000 in
theorem show_6 (ix li : Int) (w : World) (hG : Glob w) (hcr : Hid (cmdRight ⟨6, ix, 0, li, ⟨false, 0, 0, 0, false, false, 0, false⟩⟩ = true)) (hix0 : 0 ≤ ix) (hix1 : ix ≤ 999) (hli1 : li ≤ 99) (hlen : (Lib.join [[114, 111, 117, 116, 101], Lib.itoa ix, lineW li] [32]).length ≤ 140737488355328) :
    Calls Tryz.prog 61 #[.agg #[.int .i64 6, .int .i64 ix, .int .i64 0, .int .i64 li, .bool false, .int .i64 0, .int .u32 0, .int .u32 0, .bool false, .bool false, .int .i64 0, .bool false]] w fun e w' => e = .returned (.tuple #[str (Lib.join [[114, 111, 117, 116, 101], Lib.itoa ix, lineW li] [32]), .int .i64 0]) ∧ Below w.heap.size w w' := by
  have hcall := fun W => right_any 6 ix 0 li 0 0 0 0 false false false false W
  rw [hcr.out] at hcall
  clear hcr
  have hlen' := Lib.hid hlen
  clear hlen
  go_enter Tryz.func61, Tryz.ntmps61
  go_wp2_with (first | ((with_reducible refine wpl_load 31 _ rfl ?_ w.heap.size 0 ?_ _ _ (CellsAt.new _ _ _) Tryz.underlying31 rfl (by kernel_rfl) ?_); (· rfl); (· rfl)) | (go_at_call 129; (with_reducible refine (hcall _).mono ?_); rintro e w1 ⟨rfl, hb1⟩; have hrow1 := (hb1.block w.heap.size (by simp)).trans (heap_alloc_new w _); have hs1 := hb1.size; simp at hs1))
  have hB1 : Below w.heap.size w w1 := ((Below.refl _ _).alloc (Nat.le_refl _) _).trans (hb1.mono (by simp))
  have hc10 := rowc hrow1 0
  simp only [List.getElem?_cons_zero] at hc10
  refine region_start (S := (fun W => Below w1.heap.size w1 W)) 7 rfl #[false, false, false, false, false, false, false] rfl (by kernel_rfl) ?_
  refine region_s ?_ ?_
  · (show Below _ _ _; repeat (first | exact Below.refl _ _ | assumption | refine Below.drew ?_ | refine Below.alloc ?_ (by first | omega | (simp; done) | (simp; omega) | (simp [World.setCell]; omega)) _ | refine Below.setCell ?_ (by first | omega | (simp; done) | (simp; omega) | (simp [World.setCell]; omega)) _ | refine below_setRow ?_ (by first | omega | (simp; done) | (simp; omega) | (simp [World.setCell]; omega)) _ | (refine Below.trans ?_ (Below.mono (by assumption) (by first | omega | (simp; done) | (simp; omega) | (simp [World.setCell]; omega))))))
  intro hS
  refine region_take (i := 1) (oi := ⟨(some 10), (Op.fieldAddr 31 (Operand.tmp 1) 0), 0, _, _, none⟩) (v := ?_) #[false, true, false, false, false, false, false] rfl (by kernel_rfl) (by kernel_rfl) (by kernel_rfl) (fun _ _ _ h => h) hS ?_ rfl ?_
  rotate_left
  · refine Or.inl ⟨rfl, fun W hW => ?_⟩
    dsimp only at hW
    have hx0 := (hW.cell (p := ⟨w.heap.size, 0, none⟩) (show w.heap.size < _ by omega)).trans hc10
    go_simp
    try rfl
  try simp only [Act.put, List.setIfInBounds_toArray, List.set_cons_zero, List.set_cons_succ]
  refine region_take (i := 2) (oi := ⟨(some 11), (Op.load 25 (Operand.tmp 10)), 25, _, _, none⟩) (v := ?_) #[false, true, true, false, false, false, false] rfl (by kernel_rfl) (by kernel_rfl) (by kernel_rfl) (fun _ _ _ h => h) hS ?_ rfl ?_
  rotate_left
  · refine Or.inl ⟨rfl, fun W hW => ?_⟩
    dsimp only at hW
    have hx0 := (hW.cell (p := ⟨w.heap.size, 0, none⟩) (show w.heap.size < _ by omega)).trans hc10
    go_simp
    try rfl
  try simp only [Act.put, List.setIfInBounds_toArray, List.set_cons_zero, List.set_cons_succ]
  refine region_op (i := 0) (oi := ⟨(some 9), (Op.call { callee := (Callee.value (Operand.func 130)), args := #[], argTypes := #[] }), 43, _, _, none⟩) #[true, true, true, false, false, false, false] rfl (by kernel_rfl) rfl rfl ?_
  intro K hK
  go_simp; refine (kinds_any _).mono ?_; rintro e w2 ⟨rfl, rfl⟩
  refine hK _ _ ⟨?_, fun hS => ?_⟩
  · (show Below _ _ _; repeat (first | exact Below.refl _ _ | assumption | refine Below.drew ?_ | refine Below.alloc ?_ (by first | omega | (simp; done) | (simp; omega) | (simp [World.setCell]; omega)) _ | refine Below.setCell ?_ (by first | omega | (simp; done) | (simp; omega) | (simp [World.setCell]; omega)) _ | refine below_setRow ?_ (by first | omega | (simp; done) | (simp; omega) | (simp [World.setCell]; omega)) _ | (refine Below.trans ?_ (Below.mono (by assumption) (by first | omega | (simp; done) | (simp; omega) | (simp [World.setCell]; omega))))))
  try simp only [Act.put, List.setIfInBounds_toArray, List.set_cons_zero, List.set_cons_succ]
  refine region_op (i := 3) (oi := ⟨(some 12), (Op.indexAddr 43 (Operand.tmp 9) (Operand.tmp 11)), 0, _, _, none⟩) #[true, true, true, true, false, false, false] rfl (by kernel_rfl) rfl rfl ?_
  intro K hK
  go_simp
  refine hK _ _ ⟨?_, fun hS => ?_⟩
  · (show Below _ _ _; repeat (first | exact Below.refl _ _ | assumption | refine Below.drew ?_ | refine Below.alloc ?_ (by first | omega | (simp; done) | (simp; omega) | (simp [World.setCell]; omega)) _ | refine Below.setCell ?_ (by first | omega | (simp; done) | (simp; omega) | (simp [World.setCell]; omega)) _ | refine below_setRow ?_ (by first | omega | (simp; done) | (simp; omega) | (simp [World.setCell]; omega)) _ | (refine Below.trans ?_ (Below.mono (by assumption) (by first | omega | (simp; done) | (simp; omega) | (simp [World.setCell]; omega))))))
  try simp only [Act.put, List.setIfInBounds_toArray, List.set_cons_zero, List.set_cons_succ]
  refine region_op (i := 4) (oi := ⟨(some 13), (Op.load 9 (Operand.tmp 12)), 9, _, _, none⟩) #[true, true, true, true, true, false, false] rfl (by kernel_rfl) rfl rfl ?_
  intro K hK
  go_simp
  refine hK _ _ ⟨?_, fun hS => ?_⟩
  · (show Below _ _ _; repeat (first | exact Below.refl _ _ | assumption | refine Below.drew ?_ | refine Below.alloc ?_ (by first | omega | (simp; done) | (simp; omega) | (simp [World.setCell]; omega)) _ | refine Below.setCell ?_ (by first | omega | (simp; done) | (simp; omega) | (simp [World.setCell]; omega)) _ | refine below_setRow ?_ (by first | omega | (simp; done) | (simp; omega) | (simp [World.setCell]; omega)) _ | (refine Below.trans ?_ (Below.mono (by assumption) (by first | omega | (simp; done) | (simp; omega) | (simp [World.setCell]; omega))))))
  try simp only [Act.put, List.setIfInBounds_toArray, List.set_cons_zero, List.set_cons_succ]
  refine region_op (i := 5) (oi := ⟨(some 14), (Op.buildSlice 43 1 #[(0, (Operand.tmp 13))]), 43, _, _, none⟩) #[true, true, true, true, true, true, false] rfl (by kernel_rfl) rfl rfl ?_
  intro K hK
  go_simp
  refine hK _ _ ⟨?_, fun hS => ?_⟩
  · (show Below _ _ _; repeat (first | exact Below.refl _ _ | assumption | refine Below.drew ?_ | refine Below.alloc ?_ (by first | omega | (simp; done) | (simp; omega) | (simp [World.setCell]; omega)) _ | refine Below.setCell ?_ (by first | omega | (simp; done) | (simp; omega) | (simp [World.setCell]; omega)) _ | refine below_setRow ?_ (by first | omega | (simp; done) | (simp; omega) | (simp [World.setCell]; omega)) _ | (refine Below.trans ?_ (Below.mono (by assumption) (by first | omega | (simp; done) | (simp; omega) | (simp [World.setCell]; omega))))))
  try simp only [Act.put, List.setIfInBounds_toArray, List.set_cons_zero, List.set_cons_succ]
  refine region_take (i := 6) (oi := ⟨(some 4), (Op.assign (Operand.tmp 14)), 43, _, _, none⟩) (v := ?_) #[true, true, true, true, true, true, true] rfl (by kernel_rfl) (by kernel_rfl) (by kernel_rfl) (fun _ _ _ h => h) hS ?_ rfl ?_
  rotate_left
  · refine Or.inl ⟨rfl, fun W hW => ?_⟩
    dsimp only at hW
    have hx0 := (hW.cell (p := ⟨w.heap.size, 0, none⟩) (show w.heap.size < _ by omega)).trans hc10
    go_simp
    try rfl
  try simp only [Act.put, List.setIfInBounds_toArray, List.set_cons_zero, List.set_cons_succ]
  refine anyH_forget (F := (fun W => Below w1.heap.size w1 W ∧ Own W (w.heap.size + 1) (.slice (some ⟨w1.heap.size + 1, 0, none⟩) 1 1) [[114, 111, 117, 116, 101]])) ⟨hS, Own.at (by (try simp only [alloc_drew, heap_drew]; first | exact heap_alloc_new _ _ | exact hp1 _ _ _ | exact hp2 _ _ _ _ | exact hp3 _ _ _ _ _ | exact hq1 _ _ _ | exact hq2 _ _ _ _ | exact hq3 _ _ _ _ _ | exact hr2 _ _ _ _ | exact hr3 _ _ _ _ _ | (simp; done))) rfl (by omega) (by omega)⟩ ?_
  rintro w3 ⟨hB3, hown3⟩
  refine wpAnyH_done (by kernel_rfl) ?_ _
  skip
  have hrow3 := (hB3.block w.heap.size (by omega)).trans hrow1
  have hB3' := hB1.trans (hB3.mono (by omega))
  have hs3 := hB3.size
  have hG3 := hG.below hB3'
  have hc30 := rowc hrow3 0
  have hc31 := rowc hrow3 1
  simp only [List.getElem?_cons_zero, List.getElem?_cons_succ] at hc30 hc31
  clear hS hc10 hb1
  generalize hv3 : Value.slice (some ⟨w1.heap.size + 1, 0, none⟩) 1 1 = v3 at hown3 ⊢
  go_wp2_with (first | (go_at_call 59; (with_reducible refine (itoa_any ix (by omega) (by omega) w3 hG3).mono ?_); rintro e w4 ⟨rfl, hb4⟩; have hs4 := hb4.size; have hown4 := (hown3.below hb4).below ((Below.refl _ _).alloc (Nat.le_refl _) (.cells #[str (Lib.itoa ix)] 9)); have hrow4 := (Below.heap_alloc w4 (.cells #[str (Lib.itoa ix)] 9) _ (by omega)).trans ((hb4.block w.heap.size (by omega)).trans hrow3); clear hc30 hc31) | (at_builtin; refine wpl_app rfl (.tmp 18) (.tmp 22) rfl (w.heap.size + 1) v3 [[114, 111, 117, 116, 101]] [Lib.itoa ix] w4.heap.size 1 rfl rfl rfl hown4 (heap_alloc_new _ _) (by simp) (by simp; omega) ?_; intro v5 w5 hown5 hg5; simp only [List.cons_append, List.nil_append] at hown5; have hB5 := Own.grown hown4 hg5 (by simp; omega); have hrow5 := Own.keep hown4 hg5 hrow4 (by decide); have hs5 := hB5.size; simp at hs5; have hB5' : Below w.heap.size w w5 := ((hB3'.trans (hb4.mono (by omega))).alloc (by omega) _).trans (hB5.mono (by omega)); have hG5 := hG.below hB5'; have hc52 := rowc hrow5 2; have hc53 := rowc hrow5 3; have hc50 := rowc hrow5 0; simp only [List.getElem?_cons_zero, List.getElem?_cons_succ] at hc52 hc53 hc50) | ((with_reducible refine wpl_load 29 _ rfl ?_ w.heap.size 4 ?_ _ _ (CellsAt.sub hrow5 4 8) Tryz.underlying29 rfl ?_ ?_); (· rfl); (· rfl); (· kernel_rfl)) | ((guard_target =~ wpList _ _ _ [_] _ _); (refine wpl_store 29 _ _ rfl ?_ w5.heap.size 0 29 _ _ (heap_alloc_new w5 _) rfl rfl ?_ ?_ ?_ _ rfl ?_); (· rfl); (· kernel_rfl); (· simp); (· rfl); simp only [List.take, List.drop, List.nil_append, List.append_nil, List.cons_append, setRow_new]; have hown6 := hown5.below ((Below.refl _ _).alloc (Nat.le_refl _) (.cells #[.bool false, .int .i64 0, .int .u32 0, .int .u32 0, .bool false, .bool false, .int .i64 0, .bool false] 29)); have hrow6 := (Below.heap_alloc w5 (.cells #[.bool false, .int .i64 0, .int .u32 0, .int .u32 0, .bool false, .bool false, .int .i64 0, .bool false] 29) _ (by omega)).trans hrow5; have hB6 : Below w.heap.size w (w5.alloc (.cells #[.bool false, .int .i64 0, .int .u32 0, .int .u32 0, .bool false, .bool false, .int .i64 0, .bool false] 29)) := (hB5').alloc (by omega) _; have hG6 := hG.below hB6; have hc60 := rowc hrow6 0; have hc62 := rowc hrow6 2; have hc63 := rowc hrow6 3; simp only [List.getElem?_cons_zero, List.getElem?_cons_succ] at hc60 hc62 hc63) | (go_at_call 133; (with_reducible refine (lineS li (by omega) (w5.alloc (.cells #[.bool false, .int .i64 0, .int .u32 0, .int .u32 0, .bool false, .bool false, .int .i64 0, .bool false] 29)) hG6).mono ?_); rintro e w7 ⟨rfl, hb7⟩; have hs7 := hb7.size; simp at hs7; have hown7 := (hown6.below hb7).below ((Below.refl _ _).alloc (Nat.le_refl _) (.cells #[str (lineW li)] 9))) | (at_builtin; refine wpl_app rfl (.tmp 65) (.tmp 69) rfl (w.heap.size + 1) v5 [[114, 111, 117, 116, 101], Lib.itoa ix] [lineW li] w7.heap.size 1 rfl rfl rfl hown7 (heap_alloc_new _ _) (by simp) (by simp; omega) ?_; intro v8 w8 hown8 hg8; simp only [List.cons_append, List.nil_append] at hown8; have hB8 := Own.grown hown7 hg8 (by simp; omega); have hB8' : Below w.heap.size w w8 := ((hB6.trans (hb7.mono (by simp; omega))).alloc (by omega) _).trans (hB8.mono (by omega))) | (go_at_call 134; (with_reducible refine (cjoin_own w8 (w.heap.size + 1) v8 _ hown8 (by simp) hlen'.out).mono ?_); rintro e w9 ⟨rfl, hb9⟩))
  go_ret2
  exact ⟨rfl, hB8'.trans (hb9.mono hB8'.size)⟩
set_option maxRecDepth 100000 in
set_option maxHeartbeats 2000000 in
theorem show_7 (w : World) (hG : Glob w) (hcr : Hid (cmdRight ⟨7, 0, 0, 0, ⟨false, 0, 0, 0, false, false, 0, false⟩⟩ = true)) (hlen : (Lib.join [[108, 111, 99, 107]] [32]).length ≤ 140737488355328) :
    Calls Tryz.prog 61 #[.agg #[.int .i64 7, .int .i64 0, .int .i64 0, .int .i64 0, .bool false, .int .i64 0, .int .u32 0, .int .u32 0, .bool false, .bool false, .int .i64 0, .bool false]] w fun e w' => e = .returned (.tuple #[str (Lib.join [[108, 111, 99, 107]] [32]), .int .i64 0]) ∧ Below w.heap.size w w' := by
  have hcall := fun W => right_any 7 0 0 0 0 0 0 0 false false false false W
  rw [hcr.out] at hcall
  clear hcr
  have hlen' := Lib.hid hlen
  clear hlen
  go_enter Tryz.func61, Tryz.ntmps61
  go_wp2_with (first | ((with_reducible refine wpl_load 31 _ rfl ?_ w.heap.size 0 ?_ _ _ (CellsAt.new _ _ _) Tryz.underlying31 rfl (by kernel_rfl) ?_); (· rfl); (· rfl)) | (go_at_call 129; (with_reducible refine (hcall _).mono ?_); rintro e w1 ⟨rfl, hb1⟩; have hrow1 := (hb1.block w.heap.size (by simp)).trans (heap_alloc_new w _); have hs1 := hb1.size; simp at hs1))
  have hB1 : Below w.heap.size w w1 := ((Below.refl _ _).alloc (Nat.le_refl _) _).trans (hb1.mono (by simp))
  have hc10 := rowc hrow1 0
  simp only [List.getElem?_cons_zero] at hc10
  refine region_start (S := (fun W => Below w1.heap.size w1 W)) 7 rfl #[false, false, false, false, false, false, false] rfl (by kernel_rfl) ?_
  refine region_s ?_ ?_
  · (show Below _ _ _; repeat (first | exact Below.refl _ _ | assumption | refine Below.drew ?_ | refine Below.alloc ?_ (by first | omega | (simp; done) | (simp; omega) | (simp [World.setCell]; omega)) _ | refine Below.setCell ?_ (by first | omega | (simp; done) | (simp; omega) | (simp [World.setCell]; omega)) _ | refine below_setRow ?_ (by first | omega | (simp; done) | (simp; omega) | (simp [World.setCell]; omega)) _ | (refine Below.trans ?_ (Below.mono (by assumption) (by first | omega | (simp; done) | (simp; omega) | (simp [World.setCell]; omega))))))
  intro hS
  refine region_take (i := 1) (oi := ⟨(some 10), (Op.fieldAddr 31 (Operand.tmp 1) 0), 0, _, _, none⟩) (v := ?_) #[false, true, false, false, false, false, false] rfl (by kernel_rfl) (by kernel_rfl) (by kernel_rfl) (fun _ _ _ h => h) hS ?_ rfl ?_
  rotate_left
  · refine Or.inl ⟨rfl, fun W hW => ?_⟩
    dsimp only at hW
    have hx0 := (hW.cell (p := ⟨w.heap.size, 0, none⟩) (show w.heap.size < _ by omega)).trans hc10
    go_simp
    try rfl
  try simp only [Act.put, List.setIfInBounds_toArray, List.set_cons_zero, List.set_cons_succ]
  refine region_take (i := 2) (oi := ⟨(some 11), (Op.load 25 (Operand.tmp 10)), 25, _, _, none⟩) (v := ?_) #[false, true, true, false, false, false, false] rfl (by kernel_rfl) (by kernel_rfl) (by kernel_rfl) (fun _ _ _ h => h) hS ?_ rfl ?_
  rotate_left
  · refine Or.inl ⟨rfl, fun W hW => ?_⟩
    dsimp only at hW
    have hx0 := (hW.cell (p := ⟨w.heap.size, 0, none⟩) (show w.heap.size < _ by omega)).trans hc10
    go_simp
    try rfl
  try simp only [Act.put, List.setIfInBounds_toArray, List.set_cons_zero, List.set_cons_succ]
  refine region_op (i := 0) (oi := ⟨(some 9), (Op.call { callee := (Callee.value (Operand.func 130)), args := #[], argTypes := #[] }), 43, _, _, none⟩) #[true, true, true, false, false, false, false] rfl (by kernel_rfl) rfl rfl ?_
  intro K hK
  go_simp; refine (kinds_any _).mono ?_; rintro e w2 ⟨rfl, rfl⟩
  refine hK _ _ ⟨?_, fun hS => ?_⟩
  · (show Below _ _ _; repeat (first | exact Below.refl _ _ | assumption | refine Below.drew ?_ | refine Below.alloc ?_ (by first | omega | (simp; done) | (simp; omega) | (simp [World.setCell]; omega)) _ | refine Below.setCell ?_ (by first | omega | (simp; done) | (simp; omega) | (simp [World.setCell]; omega)) _ | refine below_setRow ?_ (by first | omega | (simp; done) | (simp; omega) | (simp [World.setCell]; omega)) _ | (refine Below.trans ?_ (Below.mono (by assumption) (by first | omega | (simp; done) | (simp; omega) | (simp [World.setCell]; omega))))))
  try simp only [Act.put, List.setIfInBounds_toArray, List.set_cons_zero, List.set_cons_succ]
  refine region_op (i := 3) (oi := ⟨(some 12), (Op.indexAddr 43 (Operand.tmp 9) (Operand.tmp 11)), 0, _, _, none⟩) #[true, true, true, true, false, false, false] rfl (by kernel_rfl) rfl rfl ?_
  intro K hK
  go_simp
  refine hK _ _ ⟨?_, fun hS => ?_⟩
  · (show Below _ _ _; repeat (first | exact Below.refl _ _ | assumption | refine Below.drew ?_ | refine Below.alloc ?_ (by first | omega | (simp; done) | (simp; omega) | (simp [World.setCell]; omega)) _ | refine Below.setCell ?_ (by first | omega | (simp; done) | (simp; omega) | (simp [World.setCell]; omega)) _ | refine below_setRow ?_ (by first | omega | (simp; done) | (simp; omega) | (simp [World.setCell]; omega)) _ | (refine Below.trans ?_ (Below.mono (by assumption) (by first | omega | (simp; done) | (simp; omega) | (simp [World.setCell]; omega))))))
  try simp only [Act.put, List.setIfInBounds_toArray, List.set_cons_zero, List.set_cons_succ]
  refine region_op (i := 4) (oi := ⟨(some 13), (Op.load 9 (Operand.tmp 12)), 9, _, _, none⟩) #[true, true, true, true, true, false, false] rfl (by kernel_rfl) rfl rfl ?_
  intro K hK
  go_simp
  refine hK _ _ ⟨?_, fun hS => ?_⟩
  · (show Below _ _ _; repeat (first | exact Below.refl _ _ | assumption | refine Below.drew ?_ | refine Below.alloc ?_ (by first | omega | (simp; done) | (simp; omega) | (simp [World.setCell]; omega)) _ | refine Below.setCell ?_ (by first | omega | (simp; done) | (simp; omega) | (simp [World.setCell]; omega)) _ | refine below_setRow ?_ (by first | omega | (simp; done) | (simp; omega) | (simp [World.setCell]; omega)) _ | (refine Below.trans ?_ (Below.mono (by assumption) (by first | omega | (simp; done) | (simp; omega) | (simp [World.setCell]; omega))))))
  try simp only [Act.put, List.setIfInBounds_toArray, List.set_cons_zero, List.set_cons_succ]
  refine region_op (i := 5) (oi := ⟨(some 14), (Op.buildSlice 43 1 #[(0, (Operand.tmp 13))]), 43, _, _, none⟩) #[true, true, true, true, true, true, false] rfl (by kernel_rfl) rfl rfl ?_
  intro K hK
  go_simp
  refine hK _ _ ⟨?_, fun hS => ?_⟩
  · (show Below _ _ _; repeat (first | exact Below.refl _ _ | assumption | refine Below.drew ?_ | refine Below.alloc ?_ (by first | omega | (simp; done) | (simp; omega) | (simp [World.setCell]; omega)) _ | refine Below.setCell ?_ (by first | omega | (simp; done) | (simp; omega) | (simp [World.setCell]; omega)) _ | refine below_setRow ?_ (by first | omega | (simp; done) | (simp; omega) | (simp [World.setCell]; omega)) _ | (refine Below.trans ?_ (Below.mono (by assumption) (by first | omega | (simp; done) | (simp; omega) | (simp [World.setCell]; omega))))))
  try simp only [Act.put, List.setIfInBounds_toArray, List.set_cons_zero, List.set_cons_succ]
  refine region_take (i := 6) (oi := ⟨(some 4), (Op.assign (Operand.tmp 14)), 43, _, _, none⟩) (v := ?_) #[true, true, true, true, true, true, true] rfl (by kernel_rfl) (by kernel_rfl) (by kernel_rfl) (fun _ _ _ h => h) hS ?_ rfl ?_
  rotate_left
  · refine Or.inl ⟨rfl, fun W hW => ?_⟩
    dsimp only at hW
    have hx0 := (hW.cell (p := ⟨w.heap.size, 0, none⟩) (show w.heap.size < _ by omega)).trans hc10
    go_simp
    try rfl
  try simp only [Act.put, List.setIfInBounds_toArray, List.set_cons_zero, List.set_cons_succ]
  refine anyH_forget (F := (fun W => Below w1.heap.size w1 W ∧ Own W (w.heap.size + 1) (.slice (some ⟨w1.heap.size + 1, 0, none⟩) 1 1) [[108, 111, 99, 107]])) ⟨hS, Own.at (by (try simp only [alloc_drew, heap_drew]; first | exact heap_alloc_new _ _ | exact hp1 _ _ _ | exact hp2 _ _ _ _ | exact hp3 _ _ _ _ _ | exact hq1 _ _ _ | exact hq2 _ _ _ _ | exact hq3 _ _ _ _ _ | exact hr2 _ _ _ _ | exact hr3 _ _ _ _ _ | (simp; done))) rfl (by omega) (by omega)⟩ ?_
  rintro w3 ⟨hB3, hown3⟩
  refine wpAnyH_done (by kernel_rfl) ?_ _
  skip
  have hrow3 := (hB3.block w.heap.size (by omega)).trans hrow1
  have hB3' := hB1.trans (hB3.mono (by omega))
  have hs3 := hB3.size
  have hG3 := hG.below hB3'
  have hc30 := rowc hrow3 0
  have hc31 := rowc hrow3 1
  simp only [List.getElem?_cons_zero, List.getElem?_cons_succ] at hc30 hc31
  clear hS hc10 hb1
  generalize hv3 : Value.slice (some ⟨w1.heap.size + 1, 0, none⟩) 1 1 = v3 at hown3 ⊢
  go_wp2_with (first | ((with_reducible refine wpl_load 29 _ rfl ?_ w.heap.size 4 ?_ _ _ (CellsAt.sub hrow3 4 8) Tryz.underlying29 rfl ?_ ?_); (· rfl); (· rfl); (· kernel_rfl)) | ((guard_target =~ wpList _ _ _ [_] _ _); (refine wpl_store 29 _ _ rfl ?_ w3.heap.size 0 29 _ _ (heap_alloc_new w3 _) rfl rfl ?_ ?_ ?_ _ rfl ?_); (· rfl); (· kernel_rfl); (· simp); (· rfl); simp only [List.take, List.drop, List.nil_append, List.append_nil, List.cons_append, setRow_new]; have hown6 := hown3.below ((Below.refl _ _).alloc (Nat.le_refl _) (.cells #[.bool false, .int .i64 0, .int .u32 0, .int .u32 0, .bool false, .bool false, .int .i64 0, .bool false] 29)); have hrow6 := (Below.heap_alloc w3 (.cells #[.bool false, .int .i64 0, .int .u32 0, .int .u32 0, .bool false, .bool false, .int .i64 0, .bool false] 29) _ (by omega)).trans hrow3; have hB6 : Below w.heap.size w (w3.alloc (.cells #[.bool false, .int .i64 0, .int .u32 0, .int .u32 0, .bool false, .bool false, .int .i64 0, .bool false] 29)) := (hB3').alloc (by omega) _; have hG6 := hG.below hB6; have hc60 := rowc hrow6 0; have hc62 := rowc hrow6 2; have hc63 := rowc hrow6 3; simp only [List.getElem?_cons_zero, List.getElem?_cons_succ] at hc60 hc62 hc63) | (go_at_call 134; (with_reducible refine (cjoin_own (w3.alloc (.cells #[.bool false, .int .i64 0, .int .u32 0, .int .u32 0, .bool false, .bool false, .int .i64 0, .bool false] 29)) (w.heap.size + 1) v3 _ hown6 (by simp) hlen'.out).mono ?_); rintro e w9 ⟨rfl, hb9⟩))
  go_ret2
  exact ⟨rfl, hB6.trans (hb9.mono hB6.size)⟩
set_option maxRecDepth 100000 in
set_option maxHeartbeats 2000000 in
theorem show_1f (ix rw rf rt rk : Int) (rd wr : Bool) (w : World) (hG : Glob w) (hcr : Hid (cmdRight ⟨1, ix, 0, 0, ⟨true, rw, rf, rt, rd, wr, rk, false⟩⟩ = true)) (hix0 : 0 ≤ ix) (hix1 : ix ≤ 999) (hrw0 : 0 ≤ rw) (hrw1 : rw ≤ 99) (hrk0 : 0 ≤ rk) (hrk1 : rk ≤ 999) (hrf0 : 0 ≤ rf) (hrf1 : rf < 4294967296) (hrt0 : 0 ≤ rt) (hrt1 : rt < 4294967296) (hlen : (Lib.join [[114, 101, 103, 105, 111, 110], Lib.itoa ix, Lib.itoa rw, hexN 8 rf.toNat, hexN 8 rt.toNat, rightsW rd wr, Lib.itoa rk] [32]).length ≤ 140737488355328) :
    Calls Tryz.prog 61 #[.agg #[.int .i64 1, .int .i64 ix, .int .i64 0, .int .i64 0, .bool true, .int .i64 rw, .int .u32 rf, .int .u32 rt, .bool rd, .bool wr, .int .i64 rk, .bool false]] w fun e w' => e = .returned (.tuple #[str (Lib.join [[114, 101, 103, 105, 111, 110], Lib.itoa ix, Lib.itoa rw, hexN 8 rf.toNat, hexN 8 rt.toNat, rightsW rd wr, Lib.itoa rk] [32]), .int .i64 0]) ∧ Below w.heap.size w w' := by
  have hcall := fun W => right_any 1 ix 0 0 rw rf rt rk true rd wr false W
  rw [hcr.out] at hcall
  clear hcr
  have hlen' := Lib.hid hlen
  clear hlen
  go_enter Tryz.func61, Tryz.ntmps61
  go_wp2_with (first | ((with_reducible refine wpl_load 31 _ rfl ?_ w.heap.size 0 ?_ _ _ (CellsAt.new _ _ _) Tryz.underlying31 rfl (by kernel_rfl) ?_); (· rfl); (· rfl)) | (go_at_call 129; (with_reducible refine (hcall _).mono ?_); rintro e w1 ⟨rfl, hb1⟩; have hrow1 := (hb1.block w.heap.size (by simp)).trans (heap_alloc_new w _); have hs1 := hb1.size; simp at hs1))
  have hB1 : Below w.heap.size w w1 := ((Below.refl _ _).alloc (Nat.le_refl _) _).trans (hb1.mono (by simp))
  have hc10 := rowc hrow1 0
  simp only [List.getElem?_cons_zero] at hc10
  refine region_start (S := (fun W => Below w1.heap.size w1 W)) 7 rfl #[false, false, false, false, false, false, false] rfl (by kernel_rfl) ?_
  refine region_s ?_ ?_
  · (show Below _ _ _; repeat (first | exact Below.refl _ _ | assumption | refine Below.drew ?_ | refine Below.alloc ?_ (by first | omega | (simp; done) | (simp; omega) | (simp [World.setCell]; omega)) _ | refine Below.setCell ?_ (by first | omega | (simp; done) | (simp; omega) | (simp [World.setCell]; omega)) _ | refine below_setRow ?_ (by first | omega | (simp; done) | (simp; omega) | (simp [World.setCell]; omega)) _ | (refine Below.trans ?_ (Below.mono (by assumption) (by first | omega | (simp; done) | (simp; omega) | (simp [World.setCell]; omega))))))
  intro hS
  refine region_take (i := 1) (oi := ⟨(some 10), (Op.fieldAddr 31 (Operand.tmp 1) 0), 0, _, _, none⟩) (v := ?_) #[false, true, false, false, false, false, false] rfl (by kernel_rfl) (by kernel_rfl) (by kernel_rfl) (fun _ _ _ h => h) hS ?_ rfl ?_
  rotate_left
  · refine Or.inl ⟨rfl, fun W hW => ?_⟩
    dsimp only at hW
    have hx0 := (hW.cell (p := ⟨w.heap.size, 0, none⟩) (show w.heap.size < _ by omega)).trans hc10
    go_simp
    try rfl
  try simp only [Act.put, List.setIfInBounds_toArray, List.set_cons_zero, List.set_cons_succ]
  refine region_take (i := 2) (oi := ⟨(some 11), (Op.load 25 (Operand.tmp 10)), 25, _, _, none⟩) (v := ?_) #[false, true, true, false, false, false, false] rfl (by kernel_rfl) (by kernel_rfl) (by kernel_rfl) (fun _ _ _ h => h) hS ?_ rfl ?_
  rotate_left
  · refine Or.inl ⟨rfl, fun W hW => ?_⟩
    dsimp only at hW
    have hx0 := (hW.cell (p := ⟨w.heap.size, 0, none⟩) (show w.heap.size < _ by omega)).trans hc10
    go_simp
    try rfl
  try simp only [Act.put, List.setIfInBounds_toArray, List.set_cons_zero, List.set_cons_succ]
  refine region_op (i := 0) (oi := ⟨(some 9), (Op.call { callee := (Callee.value (Operand.func 130)), args := #[], argTypes := #[] }), 43, _, _, none⟩) #[true, true, true, false, false, false, false] rfl (by kernel_rfl) rfl rfl ?_
  intro K hK
  go_simp; refine (kinds_any _).mono ?_; rintro e w2 ⟨rfl, rfl⟩
  refine hK _ _ ⟨?_, fun hS => ?_⟩
  · (show Below _ _ _; repeat (first | exact Below.refl _ _ | assumption | refine Below.drew ?_ | refine Below.alloc ?_ (by first | omega | (simp; done) | (simp; omega) | (simp [World.setCell]; omega)) _ | refine Below.setCell ?_ (by first | omega | (simp; done) | (simp; omega) | (simp [World.setCell]; omega)) _ | refine below_setRow ?_ (by first | omega | (simp; done) | (simp; omega) | (simp [World.setCell]; omega)) _ | (refine Below.trans ?_ (Below.mono (by assumption) (by first | omega | (simp; done) | (simp; omega) | (simp [World.setCell]; omega))))))
  try simp only [Act.put, List.setIfInBounds_toArray, List.set_cons_zero, List.set_cons_succ]
  refine region_op (i := 3) (oi := ⟨(some 12), (Op.indexAddr 43 (Operand.tmp 9) (Operand.tmp 11)), 0, _, _, none⟩) #[true, true, true, true, false, false, false] rfl (by kernel_rfl) rfl rfl ?_
  intro K hK
  go_simp
  refine hK _ _ ⟨?_, fun hS => ?_⟩
  · (show Below _ _ _; repeat (first | exact Below.refl _ _ | assumption | refine Below.drew ?_ | refine Below.alloc ?_ (by first | omega | (simp; done) | (simp; omega) | (simp [World.setCell]; omega)) _ | refine Below.setCell ?_ (by first | omega | (simp; done) | (simp; omega) | (simp [World.setCell]; omega)) _ | refine below_setRow ?_ (by first | omega | (simp; done) | (simp; omega) | (simp [World.setCell]; omega)) _ | (refine Below.trans ?_ (Below.mono (by assumption) (by first | omega | (simp; done) | (simp; omega) | (simp [World.setCell]; omega))))))
  try simp only [Act.put, List.setIfInBounds_toArray, List.set_cons_zero, List.set_cons_succ]
  refine region_op (i := 4) (oi := ⟨(some 13), (Op.load 9 (Operand.tmp 12)), 9, _, _, none⟩) #[true, true, true, true, true, false, false] rfl (by kernel_rfl) rfl rfl ?_
  intro K hK
  go_simp
  refine hK _ _ ⟨?_, fun hS => ?_⟩
  · (show Below _ _ _; repeat (first | exact Below.refl _ _ | assumption | refine Below.drew ?_ | refine Below.alloc ?_ (by first | omega | (simp; done) | (simp; omega) | (simp [World.setCell]; omega)) _ | refine Below.setCell ?_ (by first | omega | (simp; done) | (simp; omega) | (simp [World.setCell]; omega)) _ | refine below_setRow ?_ (by first | omega | (simp; done) | (simp; omega) | (simp [World.setCell]; omega)) _ | (refine Below.trans ?_ (Below.mono (by assumption) (by first | omega | (simp; done) | (simp; omega) | (simp [World.setCell]; omega))))))
  try simp only [Act.put, List.setIfInBounds_toArray, List.set_cons_zero, List.set_cons_succ]
  refine region_op (i := 5) (oi := ⟨(some 14), (Op.buildSlice 43 1 #[(0, (Operand.tmp 13))]), 43, _, _, none⟩) #[true, true, true, true, true, true, false] rfl (by kernel_rfl) rfl rfl ?_
  intro K hK
  go_simp
  refine hK _ _ ⟨?_, fun hS => ?_⟩
  · (show Below _ _ _; repeat (first | exact Below.refl _ _ | assumption | refine Below.drew ?_ | refine Below.alloc ?_ (by first | omega | (simp; done) | (simp; omega) | (simp [World.setCell]; omega)) _ | refine Below.setCell ?_ (by first | omega | (simp; done) | (simp; omega) | (simp [World.setCell]; omega)) _ | refine below_setRow ?_ (by first | omega | (simp; done) | (simp; omega) | (simp [World.setCell]; omega)) _ | (refine Below.trans ?_ (Below.mono (by assumption) (by first | omega | (simp; done) | (simp; omega) | (simp [World.setCell]; omega))))))
  try simp only [Act.put, List.setIfInBounds_toArray, List.set_cons_zero, List.set_cons_succ]
  refine region_take (i := 6) (oi := ⟨(some 4), (Op.assign (Operand.tmp 14)), 43, _, _, none⟩) (v := ?_) #[true, true, true, true, true, true, true] rfl (by kernel_rfl) (by kernel_rfl) (by kernel_rfl) (fun _ _ _ h => h) hS ?_ rfl ?_
  rotate_left
  · refine Or.inl ⟨rfl, fun W hW => ?_⟩
    dsimp only at hW
    have hx0 := (hW.cell (p := ⟨w.heap.size, 0, none⟩) (show w.heap.size < _ by omega)).trans hc10
    go_simp
    try rfl
  try simp only [Act.put, List.setIfInBounds_toArray, List.set_cons_zero, List.set_cons_succ]
  refine anyH_forget (F := (fun W => Below w1.heap.size w1 W ∧ Own W (w.heap.size + 1) (.slice (some ⟨w1.heap.size + 1, 0, none⟩) 1 1) [[114, 101, 103, 105, 111, 110]])) ⟨hS, Own.at (by (try simp only [alloc_drew, heap_drew]; first | exact heap_alloc_new _ _ | exact hp1 _ _ _ | exact hp2 _ _ _ _ | exact hp3 _ _ _ _ _ | exact hq1 _ _ _ | exact hq2 _ _ _ _ | exact hq3 _ _ _ _ _ | exact hr2 _ _ _ _ | exact hr3 _ _ _ _ _ | (simp; done))) rfl (by omega) (by omega)⟩ ?_
  rintro w3 ⟨hB3, hown3⟩
  refine wpAnyH_done (by kernel_rfl) ?_ _
  skip
  have hrow3 := (hB3.block w.heap.size (by omega)).trans hrow1
  have hB3' := hB1.trans (hB3.mono (by omega))
  have hs3 := hB3.size
  have hG3 := hG.below hB3'
  have hc30 := rowc hrow3 0
  have hc31 := rowc hrow3 1
  simp only [List.getElem?_cons_zero, List.getElem?_cons_succ] at hc30 hc31
  clear hS hc10 hb1
  generalize hv3 : Value.slice (some ⟨w1.heap.size + 1, 0, none⟩) 1 1 = v3 at hown3 ⊢
  go_wp2_with (first | (go_at_call 59; (with_reducible refine (itoa_any ix (by omega) (by omega) w3 hG3).mono ?_); rintro e w4 ⟨rfl, hb4⟩; have hs4 := hb4.size; have hown4 := (hown3.below hb4).below ((Below.refl _ _).alloc (Nat.le_refl _) (.cells #[str (Lib.itoa ix)] 9)); have hrow4 := (Below.heap_alloc w4 (.cells #[str (Lib.itoa ix)] 9) _ (by omega)).trans ((hb4.block w.heap.size (by omega)).trans hrow3); clear hc30 hc31) | (at_builtin; refine wpl_app rfl (.tmp 18) (.tmp 22) rfl (w.heap.size + 1) v3 [[114, 101, 103, 105, 111, 110]] [Lib.itoa ix] w4.heap.size 1 rfl rfl rfl hown4 (heap_alloc_new _ _) (by simp) (by simp; omega) ?_; intro v5 w5 hown5 hg5; simp only [List.cons_append, List.nil_append] at hown5; have hB5 := Own.grown hown4 hg5 (by simp; omega); have hrow5 := Own.keep hown4 hg5 hrow4 (by decide); have hs5 := hB5.size; simp at hs5; have hB5' : Below w.heap.size w w5 := ((hB3'.trans (hb4.mono (by omega))).alloc (by omega) _).trans (hB5.mono (by omega)); have hG5 := hG.below hB5'; have hc52 := rowc hrow5 2; have hc53 := rowc hrow5 3; have hc50 := rowc hrow5 0; simp only [List.getElem?_cons_zero, List.getElem?_cons_succ] at hc52 hc53 hc50) | ((with_reducible refine wpl_load 29 _ rfl ?_ w.heap.size 4 ?_ _ _ (CellsAt.sub hrow5 4 8) Tryz.underlying29 rfl ?_ ?_); (· rfl); (· rfl); (· kernel_rfl)) | ((guard_target =~ wpList _ _ _ [_] _ _); (refine wpl_store 29 _ _ rfl ?_ w5.heap.size 0 29 _ _ (heap_alloc_new w5 _) rfl rfl ?_ ?_ ?_ _ rfl ?_); (· rfl); (· kernel_rfl); (· simp); (· rfl); simp only [List.take, List.drop, List.nil_append, List.append_nil, List.cons_append, setRow_new]; have hown6 := hown5.below ((Below.refl _ _).alloc (Nat.le_refl _) (.cells #[.bool true, .int .i64 rw, .int .u32 rf, .int .u32 rt, .bool rd, .bool wr, .int .i64 rk, .bool false] 29)); have hrow6 := (Below.heap_alloc w5 (.cells #[.bool true, .int .i64 rw, .int .u32 rf, .int .u32 rt, .bool rd, .bool wr, .int .i64 rk, .bool false] 29) _ (by omega)).trans hrow5; have hB6 : Below w.heap.size w (w5.alloc (.cells #[.bool true, .int .i64 rw, .int .u32 rf, .int .u32 rt, .bool rd, .bool wr, .int .i64 rk, .bool false] 29)) := (hB5').alloc (by omega) _; have hG6 := hG.below hB6; have hc60 := rowc hrow6 0; have hc62 := rowc hrow6 2; have hc63 := rowc hrow6 3; simp only [List.getElem?_cons_zero, List.getElem?_cons_succ] at hc60 hc62 hc63))
  have hr6 : (w5.alloc (.cells #[.bool true, .int .i64 rw, .int .u32 rf, .int .u32 rt, .bool rd, .bool wr, .int .i64 rk, .bool false] 29)).heap[w5.heap.size]? = some (.cells #[.bool true, .int .i64 rw, .int .u32 rf, .int .u32 rt, .bool rd, .bool wr, .int .i64 rk, .bool false] 29) := heap_alloc_new _ _
  have hs6 : (w5.alloc (.cells #[.bool true, .int .i64 rw, .int .u32 rf, .int .u32 rt, .bool rd, .bool wr, .int .i64 rk, .bool false] 29)).heap.size = w5.heap.size + 1 := by simp
  generalize w5.alloc (.cells #[.bool true, .int .i64 rw, .int .u32 rf, .int .u32 rt, .bool rd, .bool wr, .int .i64 rk, .bool false] 29) = w6 at *
  have hK6 : Kp w w.heap.size #[.int .i64 1, .int .i64 ix, .int .i64 0, .int .i64 0, .bool true, .int .i64 rw, .int .u32 rf, .int .u32 rt, .bool rd, .bool wr, .int .i64 rk, .bool false] 31 w5.heap.size #[.bool true, .int .i64 rw, .int .u32 rf, .int .u32 rt, .bool rd, .bool wr, .int .i64 rk, .bool false] 29 w6.heap.size w6 := ⟨hB6, hrow6, hr6, Nat.le_refl _⟩
  clear hc60 hc62 hc63 hc50 hc52 hc53 hcall hown5 hg5 hB5 hrow5 hB5' hG5 hown4 hrow4 hb4 hown3 hrow3 hB3' hG3 hG
  have hs6' := Nat.le_of_eq hs6.symm
  clear hs6 hrow6 hr6
  refine region_start (S := (fun W => Kp w w.heap.size #[.int .i64 1, .int .i64 ix, .int .i64 0, .int .i64 0, .bool true, .int .i64 rw, .int .u32 rf, .int .u32 rt, .bool rd, .bool wr, .int .i64 rk, .bool false] 31 w5.heap.size #[.bool true, .int .i64 rw, .int .u32 rf, .int .u32 rt, .bool rd, .bool wr, .int .i64 rk, .bool false] 29 w6.heap.size W)) 20 rfl #[false, false, false, false, false, false, false, false, false, false, false, false, false, false, false, false, false, false, false, false] rfl (by kernel_rfl) ?_
  refine region_s ?_ ?_
  · first | exact hK6.drew | exact hS.below (by assumption) | exact hS.alloc _ | exact hS.app hownA hg12 (by omega) (by have := hS.sz; omega) (by decide) (by decide)
  intro hS
  refine region_take (i := 0) (oi := ⟨(some 30), (Op.move (Operand.tmp 4)), 43, _, _, none⟩) (v := ?_) #[true, false, false, false, false, false, false, false, false, false, false, false, false, false, false, false, false, false, false, false] rfl (by kernel_rfl) (by kernel_rfl) (by kernel_rfl) (fun _ _ _ h => h) hS ?_ rfl ?_
  rotate_left
  · refine Or.inl ⟨rfl, fun W hW => ?_⟩
    dsimp only at hW
    have hr := hW.r2
    have c1 := rowc hr 1
    have c2 := rowc hr 2
    have c3 := rowc hr 3
    have c5 := rowc hr 6
    simp only [List.getElem?_cons_zero, List.getElem?_cons_succ] at c1 c2 c3 c5
    have ir : IsRow W w5.heap.size 8 := isRow_of hr
    have ro := rowOf_of hr
    go_simp
    try rfl
  try simp only [Act.put, List.setIfInBounds_toArray, List.set_cons_zero, List.set_cons_succ]
  refine region_take (i := 1) (oi := ⟨(some 31), (Op.fieldAddr 29 (Operand.tmp 5) 1), 0, _, _, none⟩) (v := ?_) #[true, true, false, false, false, false, false, false, false, false, false, false, false, false, false, false, false, false, false, false] rfl (by kernel_rfl) (by kernel_rfl) (by kernel_rfl) (fun _ _ _ h => h) hS ?_ rfl ?_
  rotate_left
  · refine Or.inl ⟨rfl, fun W hW => ?_⟩
    dsimp only at hW
    have hr := hW.r2
    have c1 := rowc hr 1
    have c2 := rowc hr 2
    have c3 := rowc hr 3
    have c5 := rowc hr 6
    simp only [List.getElem?_cons_zero, List.getElem?_cons_succ] at c1 c2 c3 c5
    have ir : IsRow W w5.heap.size 8 := isRow_of hr
    have ro := rowOf_of hr
    go_simp
    try rfl
  try simp only [Act.put, List.setIfInBounds_toArray, List.set_cons_zero, List.set_cons_succ]
  refine region_take (i := 2) (oi := ⟨(some 32), (Op.load 3 (Operand.tmp 31)), 3, _, _, none⟩) (v := ?_) #[true, true, true, false, false, false, false, false, false, false, false, false, false, false, false, false, false, false, false, false] rfl (by kernel_rfl) (by kernel_rfl) (by kernel_rfl) (fun _ _ _ h => h) hS ?_ rfl ?_
  rotate_left
  · refine Or.inl ⟨rfl, fun W hW => ?_⟩
    dsimp only at hW
    have hr := hW.r2
    have c1 := rowc hr 1
    have c2 := rowc hr 2
    have c3 := rowc hr 3
    have c5 := rowc hr 6
    simp only [List.getElem?_cons_zero, List.getElem?_cons_succ] at c1 c2 c3 c5
    have ir : IsRow W w5.heap.size 8 := isRow_of hr
    have ro := rowOf_of hr
    go_simp
    try rfl
  try simp only [Act.put, List.setIfInBounds_toArray, List.set_cons_zero, List.set_cons_succ]
  refine region_take (i := 4) (oi := ⟨(some 34), (Op.fieldAddr 29 (Operand.tmp 5) 2), 0, _, _, none⟩) (v := ?_) #[true, true, true, false, true, false, false, false, false, false, false, false, false, false, false, false, false, false, false, false] rfl (by kernel_rfl) (by kernel_rfl) (by kernel_rfl) (fun _ _ _ h => h) hS ?_ rfl ?_
  rotate_left
  · refine Or.inl ⟨rfl, fun W hW => ?_⟩
    dsimp only at hW
    have hr := hW.r2
    have c1 := rowc hr 1
    have c2 := rowc hr 2
    have c3 := rowc hr 3
    have c5 := rowc hr 6
    simp only [List.getElem?_cons_zero, List.getElem?_cons_succ] at c1 c2 c3 c5
    have ir : IsRow W w5.heap.size 8 := isRow_of hr
    have ro := rowOf_of hr
    go_simp
    try rfl
  try simp only [Act.put, List.setIfInBounds_toArray, List.set_cons_zero, List.set_cons_succ]
  refine region_take (i := 5) (oi := ⟨(some 35), (Op.fieldAddr 27 (Operand.tmp 34) 0), 0, _, _, none⟩) (v := ?_) #[true, true, true, false, true, true, false, false, false, false, false, false, false, false, false, false, false, false, false, false] rfl (by kernel_rfl) (by kernel_rfl) (by kernel_rfl) (fun _ _ _ h => h) hS ?_ rfl ?_
  rotate_left
  · refine Or.inl ⟨rfl, fun W hW => ?_⟩
    dsimp only at hW
    have hr := hW.r2
    have c1 := rowc hr 1
    have c2 := rowc hr 2
    have c3 := rowc hr 3
    have c5 := rowc hr 6
    simp only [List.getElem?_cons_zero, List.getElem?_cons_succ] at c1 c2 c3 c5
    have ir : IsRow W w5.heap.size 8 := isRow_of hr
    have ro := rowOf_of hr
    go_simp
    try rfl
  try simp only [Act.put, List.setIfInBounds_toArray, List.set_cons_zero, List.set_cons_succ]
  refine region_take (i := 6) (oi := ⟨(some 36), (Op.load 24 (Operand.tmp 35)), 24, _, _, none⟩) (v := ?_) #[true, true, true, false, true, true, true, false, false, false, false, false, false, false, false, false, false, false, false, false] rfl (by kernel_rfl) (by kernel_rfl) (by kernel_rfl) (fun _ _ _ h => h) hS ?_ rfl ?_
  rotate_left
  · refine Or.inl ⟨rfl, fun W hW => ?_⟩
    dsimp only at hW
    have hr := hW.r2
    have c1 := rowc hr 1
    have c2 := rowc hr 2
    have c3 := rowc hr 3
    have c5 := rowc hr 6
    simp only [List.getElem?_cons_zero, List.getElem?_cons_succ] at c1 c2 c3 c5
    have ir : IsRow W w5.heap.size 8 := isRow_of hr
    have ro := rowOf_of hr
    go_simp
    try rfl
  try simp only [Act.put, List.setIfInBounds_toArray, List.set_cons_zero, List.set_cons_succ]
  refine region_take (i := 8) (oi := ⟨(some 38), (Op.fieldAddr 29 (Operand.tmp 5) 2), 0, _, _, none⟩) (v := ?_) #[true, true, true, false, true, true, true, false, true, false, false, false, false, false, false, false, false, false, false, false] rfl (by kernel_rfl) (by kernel_rfl) (by kernel_rfl) (fun _ _ _ h => h) hS ?_ rfl ?_
  rotate_left
  · refine Or.inl ⟨rfl, fun W hW => ?_⟩
    dsimp only at hW
    have hr := hW.r2
    have c1 := rowc hr 1
    have c2 := rowc hr 2
    have c3 := rowc hr 3
    have c5 := rowc hr 6
    simp only [List.getElem?_cons_zero, List.getElem?_cons_succ] at c1 c2 c3 c5
    have ir : IsRow W w5.heap.size 8 := isRow_of hr
    have ro := rowOf_of hr
    go_simp
    try rfl
  try simp only [Act.put, List.setIfInBounds_toArray, List.set_cons_zero, List.set_cons_succ]
  refine region_take (i := 9) (oi := ⟨(some 39), (Op.fieldAddr 27 (Operand.tmp 38) 1), 0, _, _, none⟩) (v := ?_) #[true, true, true, false, true, true, true, false, true, true, false, false, false, false, false, false, false, false, false, false] rfl (by kernel_rfl) (by kernel_rfl) (by kernel_rfl) (fun _ _ _ h => h) hS ?_ rfl ?_
  rotate_left
  · refine Or.inl ⟨rfl, fun W hW => ?_⟩
    dsimp only at hW
    have hr := hW.r2
    have c1 := rowc hr 1
    have c2 := rowc hr 2
    have c3 := rowc hr 3
    have c5 := rowc hr 6
    simp only [List.getElem?_cons_zero, List.getElem?_cons_succ] at c1 c2 c3 c5
    have ir : IsRow W w5.heap.size 8 := isRow_of hr
    have ro := rowOf_of hr
    go_simp
    try rfl
  try simp only [Act.put, List.setIfInBounds_toArray, List.set_cons_zero, List.set_cons_succ]
  refine region_take (i := 10) (oi := ⟨(some 40), (Op.load 24 (Operand.tmp 39)), 24, _, _, none⟩) (v := ?_) #[true, true, true, false, true, true, true, false, true, true, true, false, false, false, false, false, false, false, false, false] rfl (by kernel_rfl) (by kernel_rfl) (by kernel_rfl) (fun _ _ _ h => h) hS ?_ rfl ?_
  rotate_left
  · refine Or.inl ⟨rfl, fun W hW => ?_⟩
    dsimp only at hW
    have hr := hW.r2
    have c1 := rowc hr 1
    have c2 := rowc hr 2
    have c3 := rowc hr 3
    have c5 := rowc hr 6
    simp only [List.getElem?_cons_zero, List.getElem?_cons_succ] at c1 c2 c3 c5
    have ir : IsRow W w5.heap.size 8 := isRow_of hr
    have ro := rowOf_of hr
    go_simp
    try rfl
  try simp only [Act.put, List.setIfInBounds_toArray, List.set_cons_zero, List.set_cons_succ]
  refine region_take (i := 12) (oi := ⟨(some 42), (Op.load 29 (Operand.tmp 5)), 29, _, _, none⟩) (v := ?_) #[true, true, true, false, true, true, true, false, true, true, true, false, true, false, false, false, false, false, false, false] rfl (by kernel_rfl) (by kernel_rfl) (by kernel_rfl) (fun _ _ _ h => h) hS ?_ rfl ?_
  rotate_left
  · refine Or.inl ⟨rfl, fun W hW => ?_⟩
    dsimp only at hW
    have hr := hW.r2
    have c1 := rowc hr 1
    have c2 := rowc hr 2
    have c3 := rowc hr 3
    have c5 := rowc hr 6
    simp only [List.getElem?_cons_zero, List.getElem?_cons_succ] at c1 c2 c3 c5
    have ir : IsRow W w5.heap.size 8 := isRow_of hr
    have ro := rowOf_of hr
    go_simp
    try rfl
  try simp only [Act.put, List.setIfInBounds_toArray, List.set_cons_zero, List.set_cons_succ]
  refine region_take (i := 14) (oi := ⟨(some 44), (Op.fieldAddr 29 (Operand.tmp 5) 5), 0, _, _, none⟩) (v := ?_) #[true, true, true, false, true, true, true, false, true, true, true, false, true, false, true, false, false, false, false, false] rfl (by kernel_rfl) (by kernel_rfl) (by kernel_rfl) (fun _ _ _ h => h) hS ?_ rfl ?_
  rotate_left
  · refine Or.inl ⟨rfl, fun W hW => ?_⟩
    dsimp only at hW
    have hr := hW.r2
    have c1 := rowc hr 1
    have c2 := rowc hr 2
    have c3 := rowc hr 3
    have c5 := rowc hr 6
    simp only [List.getElem?_cons_zero, List.getElem?_cons_succ] at c1 c2 c3 c5
    have ir : IsRow W w5.heap.size 8 := isRow_of hr
    have ro := rowOf_of hr
    go_simp
    try rfl
  try simp only [Act.put, List.setIfInBounds_toArray, List.set_cons_zero, List.set_cons_succ]
  refine region_take (i := 15) (oi := ⟨(some 45), (Op.load 3 (Operand.tmp 44)), 3, _, _, none⟩) (v := ?_) #[true, true, true, false, true, true, true, false, true, true, true, false, true, false, true, true, false, false, false, false] rfl (by kernel_rfl) (by kernel_rfl) (by kernel_rfl) (fun _ _ _ h => h) hS ?_ rfl ?_
  rotate_left
  · refine Or.inl ⟨rfl, fun W hW => ?_⟩
    dsimp only at hW
    have hr := hW.r2
    have c1 := rowc hr 1
    have c2 := rowc hr 2
    have c3 := rowc hr 3
    have c5 := rowc hr 6
    simp only [List.getElem?_cons_zero, List.getElem?_cons_succ] at c1 c2 c3 c5
    have ir : IsRow W w5.heap.size 8 := isRow_of hr
    have ro := rowOf_of hr
    go_simp
    try rfl
  try simp only [Act.put, List.setIfInBounds_toArray, List.set_cons_zero, List.set_cons_succ]
  refine region_op (i := 3) (oi := ⟨(some 33), (Op.call { callee := (Callee.value (Operand.func 59)), args := #[(Operand.tmp 32)], argTypes := #[3] }), 9, _, _, none⟩) #[true, true, true, true, true, true, true, false, true, true, true, false, true, false, true, true, false, false, false, false] rfl (by kernel_rfl) rfl rfl ?_
  intro K hK
  go_simp; refine (itoa_any rw (by omega) (by omega) _ hG6.drew).mono ?_; rintro e w7 ⟨rfl, hb7⟩; have hG7 := hG6.drew.below hb7; have hown7 := (show Own w6.drew (w.heap.size + 1) v5 _ from hown6).below hb7
  refine hK _ _ ⟨?_, fun hS => ?_⟩
  · first | exact hK6.drew | exact hS.below (by assumption) | exact hS.alloc _ | exact hS.app hownA hg12 (by omega) (by have := hS.sz; omega) (by decide) (by decide)
  try simp only [Act.put, List.setIfInBounds_toArray, List.set_cons_zero, List.set_cons_succ]
  refine region_op (i := 7) (oi := ⟨(some 37), (Op.call { callee := (Callee.value (Operand.func 131)), args := #[(Operand.tmp 36)], argTypes := #[24] }), 9, _, _, none⟩) #[true, true, true, true, true, true, true, true, true, true, true, false, true, false, true, true, false, false, false, false] rfl (by kernel_rfl) rfl rfl ?_
  intro K hK
  go_simp; refine (hex131S rf hrf0 hrf1 _ hG7).mono ?_; rintro e w8 ⟨rfl, hb8⟩; have hG8 := hG7.below hb8; have hown8 := hown7.below hb8
  refine hK _ _ ⟨?_, fun hS => ?_⟩
  · first | exact hK6.drew | exact hS.below (by assumption) | exact hS.alloc _ | exact hS.app hownA hg12 (by omega) (by have := hS.sz; omega) (by decide) (by decide)
  try simp only [Act.put, List.setIfInBounds_toArray, List.set_cons_zero, List.set_cons_succ]
  refine region_op (i := 11) (oi := ⟨(some 41), (Op.call { callee := (Callee.value (Operand.func 131)), args := #[(Operand.tmp 40)], argTypes := #[24] }), 9, _, _, none⟩) #[true, true, true, true, true, true, true, true, true, true, true, true, true, false, true, true, false, false, false, false] rfl (by kernel_rfl) rfl rfl ?_
  intro K hK
  go_simp; refine (hex131S rt hrt0 hrt1 _ hG8).mono ?_; rintro e w9 ⟨rfl, hb9⟩; have hG9 := hG8.below hb9; have hown9 := hown8.below hb9
  refine hK _ _ ⟨?_, fun hS => ?_⟩
  · first | exact hK6.drew | exact hS.below (by assumption) | exact hS.alloc _ | exact hS.app hownA hg12 (by omega) (by have := hS.sz; omega) (by decide) (by decide)
  try simp only [Act.put, List.setIfInBounds_toArray, List.set_cons_zero, List.set_cons_succ]
  refine region_op (i := 13) (oi := ⟨(some 43), (Op.call { callee := (Callee.value (Operand.func 132)), args := #[(Operand.tmp 42)], argTypes := #[29] }), 9, _, _, none⟩) #[true, true, true, true, true, true, true, true, true, true, true, true, true, true, true, true, false, false, false, false] rfl (by kernel_rfl) rfl rfl ?_
  intro K hK
  go_simp; refine (rightsS true rd wr false rw rf rt rk _).mono ?_; rintro e w10 ⟨rfl, hb10⟩; have hG10 := hG9.below hb10; have hown10 := hown9.below hb10
  refine hK _ _ ⟨?_, fun hS => ?_⟩
  · first | exact hK6.drew | exact hS.below (by assumption) | exact hS.alloc _ | exact hS.app hownA hg12 (by omega) (by have := hS.sz; omega) (by decide) (by decide)
  try simp only [Act.put, List.setIfInBounds_toArray, List.set_cons_zero, List.set_cons_succ]
  refine region_op (i := 16) (oi := ⟨(some 46), (Op.call { callee := (Callee.value (Operand.func 59)), args := #[(Operand.tmp 45)], argTypes := #[3] }), 9, _, _, none⟩) #[true, true, true, true, true, true, true, true, true, true, true, true, true, true, true, true, true, false, false, false] rfl (by kernel_rfl) rfl rfl ?_
  intro K hK
  go_simp; refine (itoa_any rk (by omega) (by omega) _ hG10).mono ?_; rintro e w11 ⟨rfl, hb11⟩; have hG11 := hG10.below hb11; have hown11 := hown10.below hb11
  refine hK _ _ ⟨?_, fun hS => ?_⟩
  · first | exact hK6.drew | exact hS.below (by assumption) | exact hS.alloc _ | exact hS.app hownA hg12 (by omega) (by have := hS.sz; omega) (by decide) (by decide)
  try simp only [Act.put, List.setIfInBounds_toArray, List.set_cons_zero, List.set_cons_succ]
  refine region_op (i := 17) (oi := ⟨(some 47), (Op.buildSlice 43 5 #[(0, (Operand.tmp 33)), (1, (Operand.tmp 37)), (2, (Operand.tmp 41)), (3, (Operand.tmp 43)), (4, (Operand.tmp 46))]), 43, _, _, none⟩) #[true, true, true, true, true, true, true, true, true, true, true, true, true, true, true, true, true, true, false, false] rfl (by kernel_rfl) rfl rfl ?_
  intro K hK
  go_simp
  refine hK _ _ ⟨?_, fun hS => ?_⟩
  · first | exact hK6.drew | exact hS.below (by assumption) | exact hS.alloc _ | exact hS.app hownA hg12 (by omega) (by have := hS.sz; omega) (by decide) (by decide)
  try simp only [Act.put, List.setIfInBounds_toArray, List.set_cons_zero, List.set_cons_succ]
  refine region_op (i := 18) (oi := ⟨(some 48), (Op.call { callee := (Callee.builtin Builtin.append), args := #[(Operand.tmp 30), (Operand.tmp 47)], argTypes := #[43, 43] }), 43, _, _, none⟩) #[true, true, true, true, true, true, true, true, true, true, true, true, true, true, true, true, true, true, true, false] rfl (by kernel_rfl) rfl rfl ?_
  intro K hK
  have hownA := hown11.below ((Below.refl _ _).alloc (Nat.le_refl _) (.cells (List.map str [Lib.itoa rw, hexN 8 rf.toNat, hexN 8 rt.toNat, rightsW rd wr, Lib.itoa rk]).toArray 9)); refine wp_app _ _ rfl (w.heap.size + 1) v5 _ [Lib.itoa rw, hexN 8 rf.toNat, hexN 8 rt.toNat, rightsW rd wr, Lib.itoa rk] _ 5 rfl rfl rfl hownA (heap_alloc_new _ _) (by simp) (by have := hS.sz; omega) ?_; intro v12 w12 hown12 hg12; simp only [List.cons_append, List.nil_append] at hown12
  refine hK _ _ ⟨?_, fun hS => ?_⟩
  · first | exact hK6.drew | exact hS.below (by assumption) | exact hS.alloc _ | exact hS.app hownA hg12 (by omega) (by have := hS.sz; omega) (by decide) (by decide)
  try simp only [Act.put, List.setIfInBounds_toArray, List.set_cons_zero, List.set_cons_succ]
  refine region_take (i := 19) (oi := ⟨(some 4), (Op.assign (Operand.tmp 48)), 43, _, _, none⟩) (v := ?_) #[true, true, true, true, true, true, true, true, true, true, true, true, true, true, true, true, true, true, true, true] rfl (by kernel_rfl) (by kernel_rfl) (by kernel_rfl) (fun _ _ _ h => h) hS ?_ rfl ?_
  rotate_left
  · refine Or.inl ⟨rfl, fun W hW => ?_⟩
    dsimp only at hW
    have hr := hW.r2
    have c1 := rowc hr 1
    have c2 := rowc hr 2
    have c3 := rowc hr 3
    have c5 := rowc hr 6
    simp only [List.getElem?_cons_zero, List.getElem?_cons_succ] at c1 c2 c3 c5
    have ir : IsRow W w5.heap.size 8 := isRow_of hr
    have ro := rowOf_of hr
    go_simp
    try rfl
  try simp only [Act.put, List.setIfInBounds_toArray, List.set_cons_zero, List.set_cons_succ]
  refine wpAnyH_done (by kernel_rfl) ?_ _
  skip
  have hr12 := hS.r2
  have hB12 := hS.low
  have hG12 := hG6
  have c7 := rowc hr12 7
  simp only [List.getElem?_cons_zero, List.getElem?_cons_succ] at c7
  have hs12 := hS.sz
  clear hS hG7 hG8 hG9 hG10 hG11 hown7 hown8 hown9 hown10 hown11 hownA
  go_wp2_with (first | (go_at_call 134; (with_reducible refine (cjoin_own w12 (w.heap.size + 1) v12 _ hown12 (by simp) hlen'.out).mono ?_); rintro e w19 ⟨rfl, hb19⟩))
  go_ret2
  exact ⟨rfl, hB12.trans (hb19.mono hB12.size)⟩
set_option maxRecDepth 100000 in
set_option maxHeartbeats 2000000 in
theorem show_1t (ix rw rf rt rk : Int) (rd wr : Bool) (w : World) (hG : Glob w) (hcr : Hid (cmdRight ⟨1, ix, 0, 0, ⟨true, rw, rf, rt, rd, wr, rk, true⟩⟩ = true)) (hix0 : 0 ≤ ix) (hix1 : ix ≤ 999) (hrw0 : 0 ≤ rw) (hrw1 : rw ≤ 99) (hrk0 : 0 ≤ rk) (hrk1 : rk ≤ 999) (hrf0 : 0 ≤ rf) (hrf1 : rf < 4294967296) (hrt0 : 0 ≤ rt) (hrt1 : rt < 4294967296) (hlen : (Lib.join [[114, 101, 103, 105, 111, 110], Lib.itoa ix, Lib.itoa rw, hexN 8 rf.toNat, hexN 8 rt.toNat, rightsW rd wr, Lib.itoa rk, [108, 111, 99, 107, 101, 100]] [32]).length ≤ 140737488355328) :
    Calls Tryz.prog 61 #[.agg #[.int .i64 1, .int .i64 ix, .int .i64 0, .int .i64 0, .bool true, .int .i64 rw, .int .u32 rf, .int .u32 rt, .bool rd, .bool wr, .int .i64 rk, .bool true]] w fun e w' => e = .returned (.tuple #[str (Lib.join [[114, 101, 103, 105, 111, 110], Lib.itoa ix, Lib.itoa rw, hexN 8 rf.toNat, hexN 8 rt.toNat, rightsW rd wr, Lib.itoa rk, [108, 111, 99, 107, 101, 100]] [32]), .int .i64 0]) ∧ Below w.heap.size w w' := by
  have hcall := fun W => right_any 1 ix 0 0 rw rf rt rk true rd wr true W
  rw [hcr.out] at hcall
  clear hcr
  have hlen' := Lib.hid hlen
  clear hlen
  go_enter Tryz.func61, Tryz.ntmps61
  go_wp2_with (first | ((with_reducible refine wpl_load 31 _ rfl ?_ w.heap.size 0 ?_ _ _ (CellsAt.new _ _ _) Tryz.underlying31 rfl (by kernel_rfl) ?_); (· rfl); (· rfl)) | (go_at_call 129; (with_reducible refine (hcall _).mono ?_); rintro e w1 ⟨rfl, hb1⟩; have hrow1 := (hb1.block w.heap.size (by simp)).trans (heap_alloc_new w _); have hs1 := hb1.size; simp at hs1))
  have hB1 : Below w.heap.size w w1 := ((Below.refl _ _).alloc (Nat.le_refl _) _).trans (hb1.mono (by simp))
  have hc10 := rowc hrow1 0
  simp only [List.getElem?_cons_zero] at hc10
  refine region_start (S := (fun W => Below w1.heap.size w1 W)) 7 rfl #[false, false, false, false, false, false, false] rfl (by kernel_rfl) ?_
  refine region_s ?_ ?_
  · (show Below _ _ _; repeat (first | exact Below.refl _ _ | assumption | refine Below.drew ?_ | refine Below.alloc ?_ (by first | omega | (simp; done) | (simp; omega) | (simp [World.setCell]; omega)) _ | refine Below.setCell ?_ (by first | omega | (simp; done) | (simp; omega) | (simp [World.setCell]; omega)) _ | refine below_setRow ?_ (by first | omega | (simp; done) | (simp; omega) | (simp [World.setCell]; omega)) _ | (refine Below.trans ?_ (Below.mono (by assumption) (by first | omega | (simp; done) | (simp; omega) | (simp [World.setCell]; omega))))))
  intro hS
  refine region_take (i := 1) (oi := ⟨(some 10), (Op.fieldAddr 31 (Operand.tmp 1) 0), 0, _, _, none⟩) (v := ?_) #[false, true, false, false, false, false, false] rfl (by kernel_rfl) (by kernel_rfl) (by kernel_rfl) (fun _ _ _ h => h) hS ?_ rfl ?_
  rotate_left
  · refine Or.inl ⟨rfl, fun W hW => ?_⟩
    dsimp only at hW
    have hx0 := (hW.cell (p := ⟨w.heap.size, 0, none⟩) (show w.heap.size < _ by omega)).trans hc10
    go_simp
    try rfl
  try simp only [Act.put, List.setIfInBounds_toArray, List.set_cons_zero, List.set_cons_succ]
  refine region_take (i := 2) (oi := ⟨(some 11), (Op.load 25 (Operand.tmp 10)), 25, _, _, none⟩) (v := ?_) #[false, true, true, false, false, false, false] rfl (by kernel_rfl) (by kernel_rfl) (by kernel_rfl) (fun _ _ _ h => h) hS ?_ rfl ?_
  rotate_left
  · refine Or.inl ⟨rfl, fun W hW => ?_⟩
    dsimp only at hW
    have hx0 := (hW.cell (p := ⟨w.heap.size, 0, none⟩) (show w.heap.size < _ by omega)).trans hc10
    go_simp
    try rfl
  try simp only [Act.put, List.setIfInBounds_toArray, List.set_cons_zero, List.set_cons_succ]
  refine region_op (i := 0) (oi := ⟨(some 9), (Op.call { callee := (Callee.value (Operand.func 130)), args := #[], argTypes := #[] }), 43, _, _, none⟩) #[true, true, true, false, false, false, false] rfl (by kernel_rfl) rfl rfl ?_
  intro K hK
  go_simp; refine (kinds_any _).mono ?_; rintro e w2 ⟨rfl, rfl⟩
  refine hK _ _ ⟨?_, fun hS => ?_⟩
  · (show Below _ _ _; repeat (first | exact Below.refl _ _ | assumption | refine Below.drew ?_ | refine Below.alloc ?_ (by first | omega | (simp; done) | (simp; omega) | (simp [World.setCell]; omega)) _ | refine Below.setCell ?_ (by first | omega | (simp; done) | (simp; omega) | (simp [World.setCell]; omega)) _ | refine below_setRow ?_ (by first | omega | (simp; done) | (simp; omega) | (simp [World.setCell]; omega)) _ | (refine Below.trans ?_ (Below.mono (by assumption) (by first | omega | (simp; done) | (simp; omega) | (simp [World.setCell]; omega))))))
  try simp only [Act.put, List.setIfInBounds_toArray, List.set_cons_zero, List.set_cons_succ]
  refine region_op (i := 3) (oi := ⟨(some 12), (Op.indexAddr 43 (Operand.tmp 9) (Operand.tmp 11)), 0, _, _, none⟩) #[true, true, true, true, false, false, false] rfl (by kernel_rfl) rfl rfl ?_
  intro K hK
  go_simp
  refine hK _ _ ⟨?_, fun hS => ?_⟩
  · (show Below _ _ _; repeat (first | exact Below.refl _ _ | assumption | refine Below.drew ?_ | refine Below.alloc ?_ (by first | omega | (simp; done) | (simp; omega) | (simp [World.setCell]; omega)) _ | refine Below.setCell ?_ (by first | omega | (simp; done) | (simp; omega) | (simp [World.setCell]; omega)) _ | refine below_setRow ?_ (by first | omega | (simp; done) | (simp; omega) | (simp [World.setCell]; omega)) _ | (refine Below.trans ?_ (Below.mono (by assumption) (by first | omega | (simp; done) | (simp; omega) | (simp [World.setCell]; omega))))))
  try simp only [Act.put, List.setIfInBounds_toArray, List.set_cons_zero, List.set_cons_succ]
  refine region_op (i := 4) (oi := ⟨(some 13), (Op.load 9 (Operand.tmp 12)), 9, _, _, none⟩) #[true, true, true, true, true, false, false] rfl (by kernel_rfl) rfl rfl ?_
  intro K hK
  go_simp
  refine hK _ _ ⟨?_, fun hS => ?_⟩
  · (show Below _ _ _; repeat (first | exact Below.refl _ _ | assumption | refine Below.drew ?_ | refine Below.alloc ?_ (by first | omega | (simp; done) | (simp; omega) | (simp [World.setCell]; omega)) _ | refine Below.setCell ?_ (by first | omega | (simp; done) | (simp; omega) | (simp [World.setCell]; omega)) _ | refine below_setRow ?_ (by first | omega | (simp; done) | (simp; omega) | (simp [World.setCell]; omega)) _ | (refine Below.trans ?_ (Below.mono (by assumption) (by first | omega | (simp; done) | (simp; omega) | (simp [World.setCell]; omega))))))
  try simp only [Act.put, List.setIfInBounds_toArray, List.set_cons_zero, List.set_cons_succ]
  refine region_op (i := 5) (oi := ⟨(some 14), (Op.buildSlice 43 1 #[(0, (Operand.tmp 13))]), 43, _, _, none⟩) #[true, true, true, true, true, true, false] rfl (by kernel_rfl) rfl rfl ?_
  intro K hK
  go_simp
  refine hK _ _ ⟨?_, fun hS => ?_⟩
  · (show Below _ _ _; repeat (first | exact Below.refl _ _ | assumption | refine Below.drew ?_ | refine Below.alloc ?_ (by first | omega | (simp; done) | (simp; omega) | (simp [World.setCell]; omega)) _ | refine Below.setCell ?_ (by first | omega | (simp; done) | (simp; omega) | (simp [World.setCell]; omega)) _ | refine below_setRow ?_ (by first | omega | (simp; done) | (simp; omega) | (simp [World.setCell]; omega)) _ | (refine Below.trans ?_ (Below.mono (by assumption) (by first | omega | (simp; done) | (simp; omega) | (simp [World.setCell]; omega))))))
  try simp only [Act.put, List.setIfInBounds_toArray, List.set_cons_zero, List.set_cons_succ]
  refine region_take (i := 6) (oi := ⟨(some 4), (Op.assign (Operand.tmp 14)), 43, _, _, none⟩) (v := ?_) #[true, true, true, true, true, true, true] rfl (by kernel_rfl) (by kernel_rfl) (by kernel_rfl) (fun _ _ _ h => h) hS ?_ rfl ?_
  rotate_left
  · refine Or.inl ⟨rfl, fun W hW => ?_⟩
    dsimp only at hW
    have hx0 := (hW.cell (p := ⟨w.heap.size, 0, none⟩) (show w.heap.size < _ by omega)).trans hc10
    go_simp
    try rfl
  try simp only [Act.put, List.setIfInBounds_toArray, List.set_cons_zero, List.set_cons_succ]
  refine anyH_forget (F := (fun W => Below w1.heap.size w1 W ∧ Own W (w.heap.size + 1) (.slice (some ⟨w1.heap.size + 1, 0, none⟩) 1 1) [[114, 101, 103, 105, 111, 110]])) ⟨hS, Own.at (by (try simp only [alloc_drew, heap_drew]; first | exact heap_alloc_new _ _ | exact hp1 _ _ _ | exact hp2 _ _ _ _ | exact hp3 _ _ _ _ _ | exact hq1 _ _ _ | exact hq2 _ _ _ _ | exact hq3 _ _ _ _ _ | exact hr2 _ _ _ _ | exact hr3 _ _ _ _ _ | (simp; done))) rfl (by omega) (by omega)⟩ ?_
  rintro w3 ⟨hB3, hown3⟩
  refine wpAnyH_done (by kernel_rfl) ?_ _
  skip
  have hrow3 := (hB3.block w.heap.size (by omega)).trans hrow1
  have hB3' := hB1.trans (hB3.mono (by omega))
  have hs3 := hB3.size
  have hG3 := hG.below hB3'
  have hc30 := rowc hrow3 0
  have hc31 := rowc hrow3 1
  simp only [List.getElem?_cons_zero, List.getElem?_cons_succ] at hc30 hc31
  clear hS hc10 hb1
  generalize hv3 : Value.slice (some ⟨w1.heap.size + 1, 0, none⟩) 1 1 = v3 at hown3 ⊢
  go_wp2_with (first | (go_at_call 59; (with_reducible refine (itoa_any ix (by omega) (by omega) w3 hG3).mono ?_); rintro e w4 ⟨rfl, hb4⟩; have hs4 := hb4.size; have hown4 := (hown3.below hb4).below ((Below.refl _ _).alloc (Nat.le_refl _) (.cells #[str (Lib.itoa ix)] 9)); have hrow4 := (Below.heap_alloc w4 (.cells #[str (Lib.itoa ix)] 9) _ (by omega)).trans ((hb4.block w.heap.size (by omega)).trans hrow3); clear hc30 hc31) | (at_builtin; refine wpl_app rfl (.tmp 18) (.tmp 22) rfl (w.heap.size + 1) v3 [[114, 101, 103, 105, 111, 110]] [Lib.itoa ix] w4.heap.size 1 rfl rfl rfl hown4 (heap_alloc_new _ _) (by simp) (by simp; omega) ?_; intro v5 w5 hown5 hg5; simp only [List.cons_append, List.nil_append] at hown5; have hB5 := Own.grown hown4 hg5 (by simp; omega); have hrow5 := Own.keep hown4 hg5 hrow4 (by decide); have hs5 := hB5.size; simp at hs5; have hB5' : Below w.heap.size w w5 := ((hB3'.trans (hb4.mono (by omega))).alloc (by omega) _).trans (hB5.mono (by omega)); have hG5 := hG.below hB5'; have hc52 := rowc hrow5 2; have hc53 := rowc hrow5 3; have hc50 := rowc hrow5 0; simp only [List.getElem?_cons_zero, List.getElem?_cons_succ] at hc52 hc53 hc50) | ((with_reducible refine wpl_load 29 _ rfl ?_ w.heap.size 4 ?_ _ _ (CellsAt.sub hrow5 4 8) Tryz.underlying29 rfl ?_ ?_); (· rfl); (· rfl); (· kernel_rfl)) | ((guard_target =~ wpList _ _ _ [_] _ _); (refine wpl_store 29 _ _ rfl ?_ w5.heap.size 0 29 _ _ (heap_alloc_new w5 _) rfl rfl ?_ ?_ ?_ _ rfl ?_); (· rfl); (· kernel_rfl); (· simp); (· rfl); simp only [List.take, List.drop, List.nil_append, List.append_nil, List.cons_append, setRow_new]; have hown6 := hown5.below ((Below.refl _ _).alloc (Nat.le_refl _) (.cells #[.bool true, .int .i64 rw, .int .u32 rf, .int .u32 rt, .bool rd, .bool wr, .int .i64 rk, .bool true] 29)); have hrow6 := (Below.heap_alloc w5 (.cells #[.bool true, .int .i64 rw, .int .u32 rf, .int .u32 rt, .bool rd, .bool wr, .int .i64 rk, .bool true] 29) _ (by omega)).trans hrow5; have hB6 : Below w.heap.size w (w5.alloc (.cells #[.bool true, .int .i64 rw, .int .u32 rf, .int .u32 rt, .bool rd, .bool wr, .int .i64 rk, .bool true] 29)) := (hB5').alloc (by omega) _; have hG6 := hG.below hB6; have hc60 := rowc hrow6 0; have hc62 := rowc hrow6 2; have hc63 := rowc hrow6 3; simp only [List.getElem?_cons_zero, List.getElem?_cons_succ] at hc60 hc62 hc63))
  have hr6 : (w5.alloc (.cells #[.bool true, .int .i64 rw, .int .u32 rf, .int .u32 rt, .bool rd, .bool wr, .int .i64 rk, .bool true] 29)).heap[w5.heap.size]? = some (.cells #[.bool true, .int .i64 rw, .int .u32 rf, .int .u32 rt, .bool rd, .bool wr, .int .i64 rk, .bool true] 29) := heap_alloc_new _ _
  have hs6 : (w5.alloc (.cells #[.bool true, .int .i64 rw, .int .u32 rf, .int .u32 rt, .bool rd, .bool wr, .int .i64 rk, .bool true] 29)).heap.size = w5.heap.size + 1 := by simp
  generalize w5.alloc (.cells #[.bool true, .int .i64 rw, .int .u32 rf, .int .u32 rt, .bool rd, .bool wr, .int .i64 rk, .bool true] 29) = w6 at *
  have hK6 : Kp w w.heap.size #[.int .i64 1, .int .i64 ix, .int .i64 0, .int .i64 0, .bool true, .int .i64 rw, .int .u32 rf, .int .u32 rt, .bool rd, .bool wr, .int .i64 rk, .bool true] 31 w5.heap.size #[.bool true, .int .i64 rw, .int .u32 rf, .int .u32 rt, .bool rd, .bool wr, .int .i64 rk, .bool true] 29 w6.heap.size w6 := ⟨hB6, hrow6, hr6, Nat.le_refl _⟩
  clear hc60 hc62 hc63 hc50 hc52 hc53 hcall hown5 hg5 hB5 hrow5 hB5' hG5 hown4 hrow4 hb4 hown3 hrow3 hB3' hG3 hG
  have hs6' := Nat.le_of_eq hs6.symm
  clear hs6 hrow6 hr6
  refine region_start (S := (fun W => Kp w w.heap.size #[.int .i64 1, .int .i64 ix, .int .i64 0, .int .i64 0, .bool true, .int .i64 rw, .int .u32 rf, .int .u32 rt, .bool rd, .bool wr, .int .i64 rk, .bool true] 31 w5.heap.size #[.bool true, .int .i64 rw, .int .u32 rf, .int .u32 rt, .bool rd, .bool wr, .int .i64 rk, .bool true] 29 w6.heap.size W)) 20 rfl #[false, false, false, false, false, false, false, false, false, false, false, false, false, false, false, false, false, false, false, false] rfl (by kernel_rfl) ?_
  refine region_s ?_ ?_
  · first | exact hK6.drew | exact hS.below (by assumption) | exact hS.alloc _ | exact hS.app hownA hg12 (by omega) (by have := hS.sz; omega) (by decide) (by decide)
  intro hS
  refine region_take (i := 0) (oi := ⟨(some 30), (Op.move (Operand.tmp 4)), 43, _, _, none⟩) (v := ?_) #[true, false, false, false, false, false, false, false, false, false, false, false, false, false, false, false, false, false, false, false] rfl (by kernel_rfl) (by kernel_rfl) (by kernel_rfl) (fun _ _ _ h => h) hS ?_ rfl ?_
  rotate_left
  · refine Or.inl ⟨rfl, fun W hW => ?_⟩
    dsimp only at hW
    have hr := hW.r2
    have c1 := rowc hr 1
    have c2 := rowc hr 2
    have c3 := rowc hr 3
    have c5 := rowc hr 6
    simp only [List.getElem?_cons_zero, List.getElem?_cons_succ] at c1 c2 c3 c5
    have ir : IsRow W w5.heap.size 8 := isRow_of hr
    have ro := rowOf_of hr
    go_simp
    try rfl
  try simp only [Act.put, List.setIfInBounds_toArray, List.set_cons_zero, List.set_cons_succ]
  refine region_take (i := 1) (oi := ⟨(some 31), (Op.fieldAddr 29 (Operand.tmp 5) 1), 0, _, _, none⟩) (v := ?_) #[true, true, false, false, false, false, false, false, false, false, false, false, false, false, false, false, false, false, false, false] rfl (by kernel_rfl) (by kernel_rfl) (by kernel_rfl) (fun _ _ _ h => h) hS ?_ rfl ?_
  rotate_left
  · refine Or.inl ⟨rfl, fun W hW => ?_⟩
    dsimp only at hW
    have hr := hW.r2
    have c1 := rowc hr 1
    have c2 := rowc hr 2
    have c3 := rowc hr 3
    have c5 := rowc hr 6
    simp only [List.getElem?_cons_zero, List.getElem?_cons_succ] at c1 c2 c3 c5
    have ir : IsRow W w5.heap.size 8 := isRow_of hr
    have ro := rowOf_of hr
    go_simp
    try rfl
  try simp only [Act.put, List.setIfInBounds_toArray, List.set_cons_zero, List.set_cons_succ]
  refine region_take (i := 2) (oi := ⟨(some 32), (Op.load 3 (Operand.tmp 31)), 3, _, _, none⟩) (v := ?_) #[true, true, true, false, false, false, false, false, false, false, false, false, false, false, false, false, false, false, false, false] rfl (by kernel_rfl) (by kernel_rfl) (by kernel_rfl) (fun _ _ _ h => h) hS ?_ rfl ?_
  rotate_left
  · refine Or.inl ⟨rfl, fun W hW => ?_⟩
    dsimp only at hW
    have hr := hW.r2
    have c1 := rowc hr 1
    have c2 := rowc hr 2
    have c3 := rowc hr 3
    have c5 := rowc hr 6
    simp only [List.getElem?_cons_zero, List.getElem?_cons_succ] at c1 c2 c3 c5
    have ir : IsRow W w5.heap.size 8 := isRow_of hr
    have ro := rowOf_of hr
    go_simp
    try rfl
  try simp only [Act.put, List.setIfInBounds_toArray, List.set_cons_zero, List.set_cons_succ]
  refine region_take (i := 4) (oi := ⟨(some 34), (Op.fieldAddr 29 (Operand.tmp 5) 2), 0, _, _, none⟩) (v := ?_) #[true, true, true, false, true, false, false, false, false, false, false, false, false, false, false, false, false, false, false, false] rfl (by kernel_rfl) (by kernel_rfl) (by kernel_rfl) (fun _ _ _ h => h) hS ?_ rfl ?_
  rotate_left
  · refine Or.inl ⟨rfl, fun W hW => ?_⟩
    dsimp only at hW
    have hr := hW.r2
    have c1 := rowc hr 1
    have c2 := rowc hr 2
    have c3 := rowc hr 3
    have c5 := rowc hr 6
    simp only [List.getElem?_cons_zero, List.getElem?_cons_succ] at c1 c2 c3 c5
    have ir : IsRow W w5.heap.size 8 := isRow_of hr
    have ro := rowOf_of hr
    go_simp
    try rfl
  try simp only [Act.put, List.setIfInBounds_toArray, List.set_cons_zero, List.set_cons_succ]
  refine region_take (i := 5) (oi := ⟨(some 35), (Op.fieldAddr 27 (Operand.tmp 34) 0), 0, _, _, none⟩) (v := ?_) #[true, true, true, false, true, true, false, false, false, false, false, false, false, false, false, false, false, false, false, false] rfl (by kernel_rfl) (by kernel_rfl) (by kernel_rfl) (fun _ _ _ h => h) hS ?_ rfl ?_
  rotate_left
  · refine Or.inl ⟨rfl, fun W hW => ?_⟩
    dsimp only at hW
    have hr := hW.r2
    have c1 := rowc hr 1
    have c2 := rowc hr 2
    have c3 := rowc hr 3
    have c5 := rowc hr 6
    simp only [List.getElem?_cons_zero, List.getElem?_cons_succ] at c1 c2 c3 c5
    have ir : IsRow W w5.heap.size 8 := isRow_of hr
    have ro := rowOf_of hr
    go_simp
    try rfl
  try simp only [Act.put, List.setIfInBounds_toArray, List.set_cons_zero, List.set_cons_succ]
  refine region_take (i := 6) (oi := ⟨(some 36), (Op.load 24 (Operand.tmp 35)), 24, _, _, none⟩) (v := ?_) #[true, true, true, false, true, true, true, false, false, false, false, false, false, false, false, false, false, false, false, false] rfl (by kernel_rfl) (by kernel_rfl) (by kernel_rfl) (fun _ _ _ h => h) hS ?_ rfl ?_
  rotate_left
  · refine Or.inl ⟨rfl, fun W hW => ?_⟩
    dsimp only at hW
    have hr := hW.r2
    have c1 := rowc hr 1
    have c2 := rowc hr 2
    have c3 := rowc hr 3
    have c5 := rowc hr 6
    simp only [List.getElem?_cons_zero, List.getElem?_cons_succ] at c1 c2 c3 c5
    have ir : IsRow W w5.heap.size 8 := isRow_of hr
    have ro := rowOf_of hr
    go_simp
    try rfl
  try simp only [Act.put, List.setIfInBounds_toArray, List.set_cons_zero, List.set_cons_succ]
  refine region_take (i := 8) (oi := ⟨(some 38), (Op.fieldAddr 29 (Operand.tmp 5) 2), 0, _, _, none⟩) (v := ?_) #[true, true, true, false, true, true, true, false, true, false, false, false, false, false, false, false, false, false, false, false] rfl (by kernel_rfl) (by kernel_rfl) (by kernel_rfl) (fun _ _ _ h => h) hS ?_ rfl ?_
  rotate_left
  · refine Or.inl ⟨rfl, fun W hW => ?_⟩
    dsimp only at hW
    have hr := hW.r2
    have c1 := rowc hr 1
    have c2 := rowc hr 2
    have c3 := rowc hr 3
    have c5 := rowc hr 6
    simp only [List.getElem?_cons_zero, List.getElem?_cons_succ] at c1 c2 c3 c5
    have ir : IsRow W w5.heap.size 8 := isRow_of hr
    have ro := rowOf_of hr
    go_simp
    try rfl
  try simp only [Act.put, List.setIfInBounds_toArray, List.set_cons_zero, List.set_cons_succ]
  refine region_take (i := 9) (oi := ⟨(some 39), (Op.fieldAddr 27 (Operand.tmp 38) 1), 0, _, _, none⟩) (v := ?_) #[true, true, true, false, true, true, true, false, true, true, false, false, false, false, false, false, false, false, false, false] rfl (by kernel_rfl) (by kernel_rfl) (by kernel_rfl) (fun _ _ _ h => h) hS ?_ rfl ?_
  rotate_left
  · refine Or.inl ⟨rfl, fun W hW => ?_⟩
    dsimp only at hW
    have hr := hW.r2
    have c1 := rowc hr 1
    have c2 := rowc hr 2
    have c3 := rowc hr 3
    have c5 := rowc hr 6
    simp only [List.getElem?_cons_zero, List.getElem?_cons_succ] at c1 c2 c3 c5
    have ir : IsRow W w5.heap.size 8 := isRow_of hr
    have ro := rowOf_of hr
    go_simp
    try rfl
  try simp only [Act.put, List.setIfInBounds_toArray, List.set_cons_zero, List.set_cons_succ]
  refine region_take (i := 10) (oi := ⟨(some 40), (Op.load 24 (Operand.tmp 39)), 24, _, _, none⟩) (v := ?_) #[true, true, true, false, true, true, true, false, true, true, true, false, false, false, false, false, false, false, false, false] rfl (by kernel_rfl) (by kernel_rfl) (by kernel_rfl) (fun _ _ _ h => h) hS ?_ rfl ?_
  rotate_left
  · refine Or.inl ⟨rfl, fun W hW => ?_⟩
    dsimp only at hW
    have hr := hW.r2
    have c1 := rowc hr 1
    have c2 := rowc hr 2
    have c3 := rowc hr 3
    have c5 := rowc hr 6
    simp only [List.getElem?_cons_zero, List.getElem?_cons_succ] at c1 c2 c3 c5
    have ir : IsRow W w5.heap.size 8 := isRow_of hr
    have ro := rowOf_of hr
    go_simp
    try rfl
  try simp only [Act.put, List.setIfInBounds_toArray, List.set_cons_zero, List.set_cons_succ]
  refine region_take (i := 12) (oi := ⟨(some 42), (Op.load 29 (Operand.tmp 5)), 29, _, _, none⟩) (v := ?_) #[true, true, true, false, true, true, true, false, true, true, true, false, true, false, false, false, false, false, false, false] rfl (by kernel_rfl) (by kernel_rfl) (by kernel_rfl) (fun _ _ _ h => h) hS ?_ rfl ?_
  rotate_left
  · refine Or.inl ⟨rfl, fun W hW => ?_⟩
    dsimp only at hW
    have hr := hW.r2
    have c1 := rowc hr 1
    have c2 := rowc hr 2
    have c3 := rowc hr 3
    have c5 := rowc hr 6
    simp only [List.getElem?_cons_zero, List.getElem?_cons_succ] at c1 c2 c3 c5
    have ir : IsRow W w5.heap.size 8 := isRow_of hr
    have ro := rowOf_of hr
    go_simp
    try rfl
  try simp only [Act.put, List.setIfInBounds_toArray, List.set_cons_zero, List.set_cons_succ]
  refine region_take (i := 14) (oi := ⟨(some 44), (Op.fieldAddr 29 (Operand.tmp 5) 5), 0, _, _, none⟩) (v := ?_) #[true, true, true, false, true, true, true, false, true, true, true, false, true, false, true, false, false, false, false, false] rfl (by kernel_rfl) (by kernel_rfl) (by kernel_rfl) (fun _ _ _ h => h) hS ?_ rfl ?_
  rotate_left
  · refine Or.inl ⟨rfl, fun W hW => ?_⟩
    dsimp only at hW
    have hr := hW.r2
    have c1 := rowc hr 1
    have c2 := rowc hr 2
    have c3 := rowc hr 3
    have c5 := rowc hr 6
    simp only [List.getElem?_cons_zero, List.getElem?_cons_succ] at c1 c2 c3 c5
    have ir : IsRow W w5.heap.size 8 := isRow_of hr
    have ro := rowOf_of hr
    go_simp
    try rfl
  try simp only [Act.put, List.setIfInBounds_toArray, List.set_cons_zero, List.set_cons_succ]
  refine region_take (i := 15) (oi := ⟨(some 45), (Op.load 3 (Operand.tmp 44)), 3, _, _, none⟩) (v := ?_) #[true, true, true, false, true, true, true, false, true, true, true, false, true, false, true, true, false, false, false, false] rfl (by kernel_rfl) (by kernel_rfl) (by kernel_rfl) (fun _ _ _ h => h) hS ?_ rfl ?_
  rotate_left
  · refine Or.inl ⟨rfl, fun W hW => ?_⟩
    dsimp only at hW
    have hr := hW.r2
    have c1 := rowc hr 1
    have c2 := rowc hr 2
    have c3 := rowc hr 3
    have c5 := rowc hr 6
    simp only [List.getElem?_cons_zero, List.getElem?_cons_succ] at c1 c2 c3 c5
    have ir : IsRow W w5.heap.size 8 := isRow_of hr
    have ro := rowOf_of hr
    go_simp
    try rfl
  try simp only [Act.put, List.setIfInBounds_toArray, List.set_cons_zero, List.set_cons_succ]
  refine region_op (i := 3) (oi := ⟨(some 33), (Op.call { callee := (Callee.value (Operand.func 59)), args := #[(Operand.tmp 32)], argTypes := #[3] }), 9, _, _, none⟩) #[true, true, true, true, true, true, true, false, true, true, true, false, true, false, true, true, false, false, false, false] rfl (by kernel_rfl) rfl rfl ?_
  intro K hK
  go_simp; refine (itoa_any rw (by omega) (by omega) _ hG6.drew).mono ?_; rintro e w7 ⟨rfl, hb7⟩; have hG7 := hG6.drew.below hb7; have hown7 := (show Own w6.drew (w.heap.size + 1) v5 _ from hown6).below hb7
  refine hK _ _ ⟨?_, fun hS => ?_⟩
  · first | exact hK6.drew | exact hS.below (by assumption) | exact hS.alloc _ | exact hS.app hownA hg12 (by omega) (by have := hS.sz; omega) (by decide) (by decide)
  try simp only [Act.put, List.setIfInBounds_toArray, List.set_cons_zero, List.set_cons_succ]
  refine region_op (i := 7) (oi := ⟨(some 37), (Op.call { callee := (Callee.value (Operand.func 131)), args := #[(Operand.tmp 36)], argTypes := #[24] }), 9, _, _, none⟩) #[true, true, true, true, true, true, true, true, true, true, true, false, true, false, true, true, false, false, false, false] rfl (by kernel_rfl) rfl rfl ?_
  intro K hK
  go_simp; refine (hex131S rf hrf0 hrf1 _ hG7).mono ?_; rintro e w8 ⟨rfl, hb8⟩; have hG8 := hG7.below hb8; have hown8 := hown7.below hb8
  refine hK _ _ ⟨?_, fun hS => ?_⟩
  · first | exact hK6.drew | exact hS.below (by assumption) | exact hS.alloc _ | exact hS.app hownA hg12 (by omega) (by have := hS.sz; omega) (by decide) (by decide)
  try simp only [Act.put, List.setIfInBounds_toArray, List.set_cons_zero, List.set_cons_succ]
  refine region_op (i := 11) (oi := ⟨(some 41), (Op.call { callee := (Callee.value (Operand.func 131)), args := #[(Operand.tmp 40)], argTypes := #[24] }), 9, _, _, none⟩) #[true, true, true, true, true, true, true, true, true, true, true, true, true, false, true, true, false, false, false, false] rfl (by kernel_rfl) rfl rfl ?_
  intro K hK
  go_simp; refine (hex131S rt hrt0 hrt1 _ hG8).mono ?_; rintro e w9 ⟨rfl, hb9⟩; have hG9 := hG8.below hb9; have hown9 := hown8.below hb9
  refine hK _ _ ⟨?_, fun hS => ?_⟩
  · first | exact hK6.drew | exact hS.below (by assumption) | exact hS.alloc _ | exact hS.app hownA hg12 (by omega) (by have := hS.sz; omega) (by decide) (by decide)
  try simp only [Act.put, List.setIfInBounds_toArray, List.set_cons_zero, List.set_cons_succ]
  refine region_op (i := 13) (oi := ⟨(some 43), (Op.call { callee := (Callee.value (Operand.func 132)), args := #[(Operand.tmp 42)], argTypes := #[29] }), 9, _, _, none⟩) #[true, true, true, true, true, true, true, true, true, true, true, true, true, true, true, true, false, false, false, false] rfl (by kernel_rfl) rfl rfl ?_
  intro K hK
  go_simp; refine (rightsS true rd wr true rw rf rt rk _).mono ?_; rintro e w10 ⟨rfl, hb10⟩; have hG10 := hG9.below hb10; have hown10 := hown9.below hb10
  refine hK _ _ ⟨?_, fun hS => ?_⟩
  · first | exact hK6.drew | exact hS.below (by assumption) | exact hS.alloc _ | exact hS.app hownA hg12 (by omega) (by have := hS.sz; omega) (by decide) (by decide)
  try simp only [Act.put, List.setIfInBounds_toArray, List.set_cons_zero, List.set_cons_succ]
  refine region_op (i := 16) (oi := ⟨(some 46), (Op.call { callee := (Callee.value (Operand.func 59)), args := #[(Operand.tmp 45)], argTypes := #[3] }), 9, _, _, none⟩) #[true, true, true, true, true, true, true, true, true, true, true, true, true, true, true, true, true, false, false, false] rfl (by kernel_rfl) rfl rfl ?_
  intro K hK
  go_simp; refine (itoa_any rk (by omega) (by omega) _ hG10).mono ?_; rintro e w11 ⟨rfl, hb11⟩; have hG11 := hG10.below hb11; have hown11 := hown10.below hb11
  refine hK _ _ ⟨?_, fun hS => ?_⟩
  · first | exact hK6.drew | exact hS.below (by assumption) | exact hS.alloc _ | exact hS.app hownA hg12 (by omega) (by have := hS.sz; omega) (by decide) (by decide)
  try simp only [Act.put, List.setIfInBounds_toArray, List.set_cons_zero, List.set_cons_succ]
  refine region_op (i := 17) (oi := ⟨(some 47), (Op.buildSlice 43 5 #[(0, (Operand.tmp 33)), (1, (Operand.tmp 37)), (2, (Operand.tmp 41)), (3, (Operand.tmp 43)), (4, (Operand.tmp 46))]), 43, _, _, none⟩) #[true, true, true, true, true, true, true, true, true, true, true, true, true, true, true, true, true, true, false, false] rfl (by kernel_rfl) rfl rfl ?_
  intro K hK
  go_simp
  refine hK _ _ ⟨?_, fun hS => ?_⟩
  · first | exact hK6.drew | exact hS.below (by assumption) | exact hS.alloc _ | exact hS.app hownA hg12 (by omega) (by have := hS.sz; omega) (by decide) (by decide)
  try simp only [Act.put, List.setIfInBounds_toArray, List.set_cons_zero, List.set_cons_succ]
  refine region_op (i := 18) (oi := ⟨(some 48), (Op.call { callee := (Callee.builtin Builtin.append), args := #[(Operand.tmp 30), (Operand.tmp 47)], argTypes := #[43, 43] }), 43, _, _, none⟩) #[true, true, true, true, true, true, true, true, true, true, true, true, true, true, true, true, true, true, true, false] rfl (by kernel_rfl) rfl rfl ?_
  intro K hK
  have hownA := hown11.below ((Below.refl _ _).alloc (Nat.le_refl _) (.cells (List.map str [Lib.itoa rw, hexN 8 rf.toNat, hexN 8 rt.toNat, rightsW rd wr, Lib.itoa rk]).toArray 9)); refine wp_app _ _ rfl (w.heap.size + 1) v5 _ [Lib.itoa rw, hexN 8 rf.toNat, hexN 8 rt.toNat, rightsW rd wr, Lib.itoa rk] _ 5 rfl rfl rfl hownA (heap_alloc_new _ _) (by simp) (by have := hS.sz; omega) ?_; intro v12 w12 hown12 hg12; simp only [List.cons_append, List.nil_append] at hown12
  refine hK _ _ ⟨?_, fun hS => ?_⟩
  · first | exact hK6.drew | exact hS.below (by assumption) | exact hS.alloc _ | exact hS.app hownA hg12 (by omega) (by have := hS.sz; omega) (by decide) (by decide)
  try simp only [Act.put, List.setIfInBounds_toArray, List.set_cons_zero, List.set_cons_succ]
  refine region_take (i := 19) (oi := ⟨(some 4), (Op.assign (Operand.tmp 48)), 43, _, _, none⟩) (v := ?_) #[true, true, true, true, true, true, true, true, true, true, true, true, true, true, true, true, true, true, true, true] rfl (by kernel_rfl) (by kernel_rfl) (by kernel_rfl) (fun _ _ _ h => h) hS ?_ rfl ?_
  rotate_left
  · refine Or.inl ⟨rfl, fun W hW => ?_⟩
    dsimp only at hW
    have hr := hW.r2
    have c1 := rowc hr 1
    have c2 := rowc hr 2
    have c3 := rowc hr 3
    have c5 := rowc hr 6
    simp only [List.getElem?_cons_zero, List.getElem?_cons_succ] at c1 c2 c3 c5
    have ir : IsRow W w5.heap.size 8 := isRow_of hr
    have ro := rowOf_of hr
    go_simp
    try rfl
  try simp only [Act.put, List.setIfInBounds_toArray, List.set_cons_zero, List.set_cons_succ]
  refine wpAnyH_done (by kernel_rfl) ?_ _
  skip
  have hr12 := hS.r2
  have hB12 := hS.low
  have hG12 := hG6
  have c7 := rowc hr12 7
  simp only [List.getElem?_cons_zero, List.getElem?_cons_succ] at c7
  have hs12 := hS.sz
  clear hS hG7 hG8 hG9 hG10 hG11 hown7 hown8 hown9 hown10 hown11 hownA
  go_wp2_with (first | (at_builtin; refine wpl_app rfl (.tmp 51) (.tmp 52) rfl (w.heap.size + 1) v12 _ [[108, 111, 99, 107, 101, 100]] w12.heap.size 1 rfl rfl rfl (hown12.below ((Below.refl _ _).alloc (Nat.le_refl _) (.cells #[str [108, 111, 99, 107, 101, 100]] 9))) (heap_alloc_new _ _) (by simp) (by simp; omega) ?_; intro v13 w13 hown13 hg13; simp only [List.cons_append, List.nil_append] at hown13; have hB13 : Below w.heap.size w w13 := (hB12.alloc (by omega) _).trans ((Own.grown (hown12.below ((Below.refl _ _).alloc (Nat.le_refl _) (.cells #[str [108, 111, 99, 107, 101, 100]] 9))) hg13 (by simp; omega)).mono (by omega))) | (go_at_call 134; (with_reducible refine (cjoin_own w13 (w.heap.size + 1) v13 _ hown13 (by simp) hlen'.out).mono ?_); rintro e w19 ⟨rfl, hb19⟩))
  go_ret2
  exact ⟨rfl, hB13.trans (hb19.mono hB13.size)⟩
end Go.Proofs.YtmjojlacpgdomaaGreatDoor
