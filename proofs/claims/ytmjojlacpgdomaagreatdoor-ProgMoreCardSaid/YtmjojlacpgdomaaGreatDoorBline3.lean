import Derived.Test.YtmjojlacpgdomaaGreatDoorBline0
/-! prog.Line: idle, mask, conf, halt -/
namespace Go.Proofs.YtmjojlacpgdomaaGreatDoor
set_option linter.unusedSimpArgs false
set_option linter.unusedVariables false
open Go Go.RowKit
attribute [local go_sem] setRow_new setRow_old
set_option maxRecDepth 100000 in
set_option maxHeartbeats 2000000 in
theorem line_7 (data : Int) (w : World) (hG : Glob w) (hcr : Hid (insRight ⟨7, 0, 0, false, data, 0, ⟨0, 0, 0, 0, ⟨false, 0, 0, 0, false, false, 0, false⟩⟩⟩ = true)) (hfit : Ins.Fit ⟨7, 0, 0, false, data, 0, ⟨0, 0, 0, 0, ⟨false, 0, 0, 0, false, false, 0, false⟩⟩⟩) (hd0 : 0 ≤ data) (hd1 : data < 4294967296) (hlen : (Lib.join [[105, 100, 108, 101], Lib.itoa data] [32]).length ≤ 140737488355328) :
    Calls Tryz.prog 22 #[.agg #[.int .i64 7, .int .i64 0, .int .u32 0, .bool false, .int .u32 data, .int .i64 0, .int .i64 0, .int .i64 0, .int .i64 0, .int .i64 0, .bool false, .int .i64 0, .int .u32 0, .int .u32 0, .bool false, .bool false, .int .i64 0, .bool false]] w fun e w' => e = .returned (.tuple #[.string ⟨(Lib.join [[105, 100, 108, 101], Lib.itoa data] [32]).toArray⟩, .int .i64 0]) ∧ Below w.heap.size w w' := by
  have hcall := fun W => instr_any ⟨7, 0, 0, false, data, 0, ⟨0, 0, 0, 0, ⟨false, 0, 0, 0, false, false, 0, false⟩⟩⟩ hfit W
  rw [hcr.out] at hcall
  clear hcr hfit
  have hlen' := Lib.hid hlen
  clear hlen
  go_enter Tryz.func22, Tryz.ntmps22
  go_wp2_with (first | ((with_reducible refine wpl_load 33 _ rfl ?_ w.heap.size 0 ?_ _ _ (CellsAt.new _ _ _) Tryz.underlying33 rfl (by kernel_rfl) ?_); (· rfl); (· rfl)) | (go_at_call 15; (refine (hcall _).mono ?_); rintro e w1 ⟨rfl, hb1⟩; have hrow1 := (hb1.block w.heap.size (by simp)).trans (heap_alloc_new w _); have hs1 := hb1.size; simp at hs1))
  have hB1 : Below w.heap.size w w1 := ((Below.refl _ _).alloc (Nat.le_refl _) _).trans (hb1.mono (by simp))
  have hc10 := rowc hrow1 0
  simp only [List.getElem?_cons_zero] at hc10
  clear hcall
  refine region_start (S := (fun W => Below w1.heap.size w1 W)) 7 rfl #[false, false, false, false, false, false, false] rfl (by kernel_rfl) ?_
  refine region_s ?_ ?_
  · (show Below _ _ _; repeat (first | exact Below.refl _ _ | assumption | refine Below.drew ?_ | refine Below.alloc ?_ (by first | omega | (simp; done) | (simp; omega) | (simp [World.setCell]; omega)) _ | refine Below.setCell ?_ (by first | omega | (simp; done) | (simp; omega) | (simp [World.setCell]; omega)) _ | refine below_setRow ?_ (by first | omega | (simp; done) | (simp; omega) | (simp [World.setCell]; omega)) _ | (refine Below.trans ?_ (Below.mono (by assumption) (by first | omega | (simp; done) | (simp; omega) | (simp [World.setCell]; omega))))))
  intro hS
  refine region_take (i := 1) (oi := ⟨(some 11), (Op.fieldAddr 33 (Operand.tmp 1) 0), 0, _, _, none⟩) (v := ?_) #[false, true, false, false, false, false, false] rfl (by kernel_rfl) (by kernel_rfl) (by kernel_rfl) (fun _ _ _ h => h) hS ?_ rfl ?_
  rotate_left
  · refine Or.inl ⟨rfl, fun W hW => ?_⟩
    dsimp only at hW
    have hx0 := (hW.cell (p := ⟨w.heap.size, 0, none⟩) (show w.heap.size < _ by omega)).trans hc10
    go_simp
    try rfl
  try simp only [Act.put, List.setIfInBounds_toArray, List.set_cons_zero, List.set_cons_succ]
  refine region_take (i := 2) (oi := ⟨(some 12), (Op.load 23 (Operand.tmp 11)), 23, _, _, none⟩) (v := ?_) #[false, true, true, false, false, false, false] rfl (by kernel_rfl) (by kernel_rfl) (by kernel_rfl) (fun _ _ _ h => h) hS ?_ rfl ?_
  rotate_left
  · refine Or.inl ⟨rfl, fun W hW => ?_⟩
    dsimp only at hW
    have hx0 := (hW.cell (p := ⟨w.heap.size, 0, none⟩) (show w.heap.size < _ by omega)).trans hc10
    go_simp
    try rfl
  try simp only [Act.put, List.setIfInBounds_toArray, List.set_cons_zero, List.set_cons_succ]
  refine region_op (i := 0) (oi := ⟨(some 10), (Op.call { callee := (Callee.value (Operand.func 45)), args := #[], argTypes := #[] }), 85, _, _, none⟩) #[true, true, true, false, false, false, false] rfl (by kernel_rfl) rfl rfl ?_
  intro K hK
  go_simp; refine (mapKinds_any _).mono ?_; rintro e w2 ⟨rfl, rfl⟩
  refine hK _ _ ⟨?_, fun hS => ?_⟩
  · (show Below _ _ _; repeat (first | exact Below.refl _ _ | assumption | refine Below.drew ?_ | refine Below.alloc ?_ (by first | omega | (simp; done) | (simp; omega) | (simp [World.setCell]; omega)) _ | refine Below.setCell ?_ (by first | omega | (simp; done) | (simp; omega) | (simp [World.setCell]; omega)) _ | refine below_setRow ?_ (by first | omega | (simp; done) | (simp; omega) | (simp [World.setCell]; omega)) _ | (refine Below.trans ?_ (Below.mono (by assumption) (by first | omega | (simp; done) | (simp; omega) | (simp [World.setCell]; omega))))))
  try simp only [Act.put, List.setIfInBounds_toArray, List.set_cons_zero, List.set_cons_succ]
  refine region_op (i := 3) (oi := ⟨(some 13), (Op.lookup 85 (Operand.tmp 10) (Operand.tmp 12) false), 83, _, _, none⟩) #[true, true, true, true, false, false, false] rfl (by kernel_rfl) rfl rfl ?_
  intro K hK
  refine wp_lookK1 _ _ 7 (kindV [105, 100, 108, 101] 110) 6 _ rfl rfl rfl rfl ?_ ?_; (· ((try (simp only [alloc_drew, heap_drew])); first | exact heap_alloc_new _ _ | exact hp1 _ _ _ | exact hp2 _ _ _ _ | exact hp3 _ _ _ _ _ | exact hq1 _ _ _ | exact hq2 _ _ _ _ | exact hq3 _ _ _ _ _ | exact hr2 _ _ _ _ | exact hr3 _ _ _ _ _ | (simp; done)))
  refine hK _ _ ⟨?_, fun hS => ?_⟩
  · (show Below _ _ _; repeat (first | exact Below.refl _ _ | assumption | refine Below.drew ?_ | refine Below.alloc ?_ (by first | omega | (simp; done) | (simp; omega) | (simp [World.setCell]; omega)) _ | refine Below.setCell ?_ (by first | omega | (simp; done) | (simp; omega) | (simp [World.setCell]; omega)) _ | refine below_setRow ?_ (by first | omega | (simp; done) | (simp; omega) | (simp [World.setCell]; omega)) _ | (refine Below.trans ?_ (Below.mono (by assumption) (by first | omega | (simp; done) | (simp; omega) | (simp [World.setCell]; omega))))))
  try simp only [Act.put, List.setIfInBounds_toArray, List.set_cons_zero, List.set_cons_succ]
  refine region_take (i := 4) (oi := ⟨(some 14), (Op.field 83 (Operand.tmp 13) 0), 9, _, _, none⟩) (v := ?_) #[true, true, true, true, true, false, false] rfl (by kernel_rfl) (by kernel_rfl) (by kernel_rfl) (fun _ _ _ h => h) hS ?_ rfl ?_
  rotate_left
  · refine Or.inl ⟨rfl, fun W hW => ?_⟩
    dsimp only at hW
    have hx0 := (hW.cell (p := ⟨w.heap.size, 0, none⟩) (show w.heap.size < _ by omega)).trans hc10
    go_simp
    try rfl
  try simp only [Act.put, List.setIfInBounds_toArray, List.set_cons_zero, List.set_cons_succ]
  refine region_op (i := 5) (oi := ⟨(some 15), (Op.buildSlice 43 1 #[(0, (Operand.tmp 14))]), 43, _, _, none⟩) #[true, true, true, true, true, true, false] rfl (by kernel_rfl) rfl rfl ?_
  intro K hK
  go_simp
  refine hK _ _ ⟨?_, fun hS => ?_⟩
  · (show Below _ _ _; repeat (first | exact Below.refl _ _ | assumption | refine Below.drew ?_ | refine Below.alloc ?_ (by first | omega | (simp; done) | (simp; omega) | (simp [World.setCell]; omega)) _ | refine Below.setCell ?_ (by first | omega | (simp; done) | (simp; omega) | (simp [World.setCell]; omega)) _ | refine below_setRow ?_ (by first | omega | (simp; done) | (simp; omega) | (simp [World.setCell]; omega)) _ | (refine Below.trans ?_ (Below.mono (by assumption) (by first | omega | (simp; done) | (simp; omega) | (simp [World.setCell]; omega))))))
  try simp only [Act.put, List.setIfInBounds_toArray, List.set_cons_zero, List.set_cons_succ]
  refine region_take (i := 6) (oi := ⟨(some 4), (Op.assign (Operand.tmp 15)), 43, _, _, none⟩) (v := ?_) #[true, true, true, true, true, true, true] rfl (by kernel_rfl) (by kernel_rfl) (by kernel_rfl) (fun _ _ _ h => h) hS ?_ rfl ?_
  rotate_left
  · refine Or.inl ⟨rfl, fun W hW => ?_⟩
    dsimp only at hW
    have hx0 := (hW.cell (p := ⟨w.heap.size, 0, none⟩) (show w.heap.size < _ by omega)).trans hc10
    go_simp
    try rfl
  try simp only [Act.put, List.setIfInBounds_toArray, List.set_cons_zero, List.set_cons_succ]
  refine anyH_forget (F := (fun W => Below w1.heap.size w1 W ∧ Own W (w.heap.size + 1) (.slice (some ⟨w1.heap.size + 1, 0, none⟩) 1 1) [[105, 100, 108, 101]])) ⟨hS, Own.at (by ((try (simp only [alloc_drew, heap_drew])); first | exact heap_alloc_new _ _ | exact hp1 _ _ _ | exact hp2 _ _ _ _ | exact hp3 _ _ _ _ _ | exact hq1 _ _ _ | exact hq2 _ _ _ _ | exact hq3 _ _ _ _ _ | exact hr2 _ _ _ _ | exact hr3 _ _ _ _ _ | (simp; done))) rfl (by omega) (by omega)⟩ ?_
  rintro w3 ⟨hB3, hown3⟩
  refine wpAnyH_done (by kernel_rfl) ?_ _
  skip
  have hrow3 := (hB3.block w.heap.size (by omega)).trans hrow1
  have hB3' := hB1.trans (hB3.mono (by omega))
  have hs3 := hB3.size
  have hs3' : w.heap.size < w3.heap.size := by omega
  have hG3 := hG.below hB3'
  clear hS hc10 hb1 hB3 hs3 hs1 hrow1 hB1
  generalize hv3 : Value.slice (some ⟨w1.heap.size + 1, 0, none⟩) 1 1 = v3 at hown3 ⊢
  clear hv3
  have hc3 := rowc hrow3
  have hc3_0 := hc3 0
  have hc3_1 := hc3 1
  have hc3_3 := hc3 3
  have hc3_4 := hc3 4
  have hc3_5 := hc3 5
  simp only [List.getElem?_cons_zero, List.getElem?_cons_succ] at hc3_0 hc3_1 hc3_3 hc3_4 hc3_5
  clear hc3
  go_wp2_with (first | (go_at_call 59; (with_reducible refine (itoa_any data (by omega) (by omega) w3 hG3).mono ?_); rintro e wc8 ⟨rfl, hbc8⟩) | (at_builtin; have hownq8 := (hown3.below hbc8).below ((Below.refl _ _).alloc (Nat.le_refl _) (.cells #[str (Lib.itoa data)] 9)); have hrowq8 := (Below.heap_alloc wc8 (.cells #[str (Lib.itoa data)] 9) _ (heap_lt ((hbc8.block w.heap.size (heap_lt hrow3)).trans hrow3))).trans ((hbc8.block w.heap.size (heap_lt hrow3)).trans hrow3); refine wpl_app rfl (.tmp 47) (.tmp 52) rfl (w.heap.size + 1) v3 _ [Lib.itoa data] (wc8).heap.size 1 rfl rfl rfl hownq8 (heap_alloc_new _ _) (by simp) (by have := heap_lt ((hbc8.block w.heap.size (heap_lt hrow3)).trans hrow3); simp; omega) ?_; intro v8 w8 hown8 hg8; simp only [List.cons_append, List.nil_append] at hown8; have hrow8 := Own.keep hownq8 hg8 hrowq8 (by decide); have hB8' : Below w.heap.size w w8 := (Below.alloc (hB3'.trans (hbc8.mono hB3'.size)) (by have := heap_lt ((hbc8.block w.heap.size (heap_lt hrow3)).trans hrow3); omega) (.cells #[str (Lib.itoa data)] 9)).trans ((Own.grown hownq8 hg8 (by have := heap_lt ((hbc8.block w.heap.size (heap_lt hrow3)).trans hrow3); simp; omega)).mono (by omega)); have hG8 := hG.below hB8'; have hc8 := rowc hrow8; have hc8_0 := hc8 0; have hc8_5 := hc8 5; simp only [List.getElem?_cons_zero, List.getElem?_cons_succ] at hc8_0 hc8_5; clear hc8) | (go_at_call 55; (with_reducible refine (join55 w8 (w.heap.size + 1) v8 _ hown8 (by simp) hlen'.out).mono ?_); rintro e w19 ⟨rfl, hb19⟩))
  go_ret2
  exact ⟨rfl, hB8'.trans (hb19.mono hB8'.size)⟩
set_option maxRecDepth 100000 in
set_option maxHeartbeats 2000000 in
theorem line_8 (data : Int) (w : World) (hG : Glob w) (hcr : Hid (insRight ⟨8, 0, 0, false, data, 0, ⟨0, 0, 0, 0, ⟨false, 0, 0, 0, false, false, 0, false⟩⟩⟩ = true)) (hfit : Ins.Fit ⟨8, 0, 0, false, data, 0, ⟨0, 0, 0, 0, ⟨false, 0, 0, 0, false, false, 0, false⟩⟩⟩) (hd0 : 0 ≤ data) (hd1 : data < 4294967296) (hlen : (Lib.join [[109, 97, 115, 107], hexN 8 data.toNat] [32]).length ≤ 140737488355328) :
    Calls Tryz.prog 22 #[.agg #[.int .i64 8, .int .i64 0, .int .u32 0, .bool false, .int .u32 data, .int .i64 0, .int .i64 0, .int .i64 0, .int .i64 0, .int .i64 0, .bool false, .int .i64 0, .int .u32 0, .int .u32 0, .bool false, .bool false, .int .i64 0, .bool false]] w fun e w' => e = .returned (.tuple #[.string ⟨(Lib.join [[109, 97, 115, 107], hexN 8 data.toNat] [32]).toArray⟩, .int .i64 0]) ∧ Below w.heap.size w w' := by
  have hcall := fun W => instr_any ⟨8, 0, 0, false, data, 0, ⟨0, 0, 0, 0, ⟨false, 0, 0, 0, false, false, 0, false⟩⟩⟩ hfit W
  rw [hcr.out] at hcall
  clear hcr hfit
  have hlen' := Lib.hid hlen
  clear hlen
  go_enter Tryz.func22, Tryz.ntmps22
  go_wp2_with (first | ((with_reducible refine wpl_load 33 _ rfl ?_ w.heap.size 0 ?_ _ _ (CellsAt.new _ _ _) Tryz.underlying33 rfl (by kernel_rfl) ?_); (· rfl); (· rfl)) | (go_at_call 15; (refine (hcall _).mono ?_); rintro e w1 ⟨rfl, hb1⟩; have hrow1 := (hb1.block w.heap.size (by simp)).trans (heap_alloc_new w _); have hs1 := hb1.size; simp at hs1))
  have hB1 : Below w.heap.size w w1 := ((Below.refl _ _).alloc (Nat.le_refl _) _).trans (hb1.mono (by simp))
  have hc10 := rowc hrow1 0
  simp only [List.getElem?_cons_zero] at hc10
  clear hcall
  refine region_start (S := (fun W => Below w1.heap.size w1 W)) 7 rfl #[false, false, false, false, false, false, false] rfl (by kernel_rfl) ?_
  refine region_s ?_ ?_
  · (show Below _ _ _; repeat (first | exact Below.refl _ _ | assumption | refine Below.drew ?_ | refine Below.alloc ?_ (by first | omega | (simp; done) | (simp; omega) | (simp [World.setCell]; omega)) _ | refine Below.setCell ?_ (by first | omega | (simp; done) | (simp; omega) | (simp [World.setCell]; omega)) _ | refine below_setRow ?_ (by first | omega | (simp; done) | (simp; omega) | (simp [World.setCell]; omega)) _ | (refine Below.trans ?_ (Below.mono (by assumption) (by first | omega | (simp; done) | (simp; omega) | (simp [World.setCell]; omega))))))
  intro hS
  refine region_take (i := 1) (oi := ⟨(some 11), (Op.fieldAddr 33 (Operand.tmp 1) 0), 0, _, _, none⟩) (v := ?_) #[false, true, false, false, false, false, false] rfl (by kernel_rfl) (by kernel_rfl) (by kernel_rfl) (fun _ _ _ h => h) hS ?_ rfl ?_
  rotate_left
  · refine Or.inl ⟨rfl, fun W hW => ?_⟩
    dsimp only at hW
    have hx0 := (hW.cell (p := ⟨w.heap.size, 0, none⟩) (show w.heap.size < _ by omega)).trans hc10
    go_simp
    try rfl
  try simp only [Act.put, List.setIfInBounds_toArray, List.set_cons_zero, List.set_cons_succ]
  refine region_take (i := 2) (oi := ⟨(some 12), (Op.load 23 (Operand.tmp 11)), 23, _, _, none⟩) (v := ?_) #[false, true, true, false, false, false, false] rfl (by kernel_rfl) (by kernel_rfl) (by kernel_rfl) (fun _ _ _ h => h) hS ?_ rfl ?_
  rotate_left
  · refine Or.inl ⟨rfl, fun W hW => ?_⟩
    dsimp only at hW
    have hx0 := (hW.cell (p := ⟨w.heap.size, 0, none⟩) (show w.heap.size < _ by omega)).trans hc10
    go_simp
    try rfl
  try simp only [Act.put, List.setIfInBounds_toArray, List.set_cons_zero, List.set_cons_succ]
  refine region_op (i := 0) (oi := ⟨(some 10), (Op.call { callee := (Callee.value (Operand.func 45)), args := #[], argTypes := #[] }), 85, _, _, none⟩) #[true, true, true, false, false, false, false] rfl (by kernel_rfl) rfl rfl ?_
  intro K hK
  go_simp; refine (mapKinds_any _).mono ?_; rintro e w2 ⟨rfl, rfl⟩
  refine hK _ _ ⟨?_, fun hS => ?_⟩
  · (show Below _ _ _; repeat (first | exact Below.refl _ _ | assumption | refine Below.drew ?_ | refine Below.alloc ?_ (by first | omega | (simp; done) | (simp; omega) | (simp [World.setCell]; omega)) _ | refine Below.setCell ?_ (by first | omega | (simp; done) | (simp; omega) | (simp [World.setCell]; omega)) _ | refine below_setRow ?_ (by first | omega | (simp; done) | (simp; omega) | (simp [World.setCell]; omega)) _ | (refine Below.trans ?_ (Below.mono (by assumption) (by first | omega | (simp; done) | (simp; omega) | (simp [World.setCell]; omega))))))
  try simp only [Act.put, List.setIfInBounds_toArray, List.set_cons_zero, List.set_cons_succ]
  refine region_op (i := 3) (oi := ⟨(some 13), (Op.lookup 85 (Operand.tmp 10) (Operand.tmp 12) false), 83, _, _, none⟩) #[true, true, true, true, false, false, false] rfl (by kernel_rfl) rfl rfl ?_
  intro K hK
  refine wp_lookK1 _ _ 8 (kindV [109, 97, 115, 107] 111) 7 _ rfl rfl rfl rfl ?_ ?_; (· ((try (simp only [alloc_drew, heap_drew])); first | exact heap_alloc_new _ _ | exact hp1 _ _ _ | exact hp2 _ _ _ _ | exact hp3 _ _ _ _ _ | exact hq1 _ _ _ | exact hq2 _ _ _ _ | exact hq3 _ _ _ _ _ | exact hr2 _ _ _ _ | exact hr3 _ _ _ _ _ | (simp; done)))
  refine hK _ _ ⟨?_, fun hS => ?_⟩
  · (show Below _ _ _; repeat (first | exact Below.refl _ _ | assumption | refine Below.drew ?_ | refine Below.alloc ?_ (by first | omega | (simp; done) | (simp; omega) | (simp [World.setCell]; omega)) _ | refine Below.setCell ?_ (by first | omega | (simp; done) | (simp; omega) | (simp [World.setCell]; omega)) _ | refine below_setRow ?_ (by first | omega | (simp; done) | (simp; omega) | (simp [World.setCell]; omega)) _ | (refine Below.trans ?_ (Below.mono (by assumption) (by first | omega | (simp; done) | (simp; omega) | (simp [World.setCell]; omega))))))
  try simp only [Act.put, List.setIfInBounds_toArray, List.set_cons_zero, List.set_cons_succ]
  refine region_take (i := 4) (oi := ⟨(some 14), (Op.field 83 (Operand.tmp 13) 0), 9, _, _, none⟩) (v := ?_) #[true, true, true, true, true, false, false] rfl (by kernel_rfl) (by kernel_rfl) (by kernel_rfl) (fun _ _ _ h => h) hS ?_ rfl ?_
  rotate_left
  · refine Or.inl ⟨rfl, fun W hW => ?_⟩
    dsimp only at hW
    have hx0 := (hW.cell (p := ⟨w.heap.size, 0, none⟩) (show w.heap.size < _ by omega)).trans hc10
    go_simp
    try rfl
  try simp only [Act.put, List.setIfInBounds_toArray, List.set_cons_zero, List.set_cons_succ]
  refine region_op (i := 5) (oi := ⟨(some 15), (Op.buildSlice 43 1 #[(0, (Operand.tmp 14))]), 43, _, _, none⟩) #[true, true, true, true, true, true, false] rfl (by kernel_rfl) rfl rfl ?_
  intro K hK
  go_simp
  refine hK _ _ ⟨?_, fun hS => ?_⟩
  · (show Below _ _ _; repeat (first | exact Below.refl _ _ | assumption | refine Below.drew ?_ | refine Below.alloc ?_ (by first | omega | (simp; done) | (simp; omega) | (simp [World.setCell]; omega)) _ | refine Below.setCell ?_ (by first | omega | (simp; done) | (simp; omega) | (simp [World.setCell]; omega)) _ | refine below_setRow ?_ (by first | omega | (simp; done) | (simp; omega) | (simp [World.setCell]; omega)) _ | (refine Below.trans ?_ (Below.mono (by assumption) (by first | omega | (simp; done) | (simp; omega) | (simp [World.setCell]; omega))))))
  try simp only [Act.put, List.setIfInBounds_toArray, List.set_cons_zero, List.set_cons_succ]
  refine region_take (i := 6) (oi := ⟨(some 4), (Op.assign (Operand.tmp 15)), 43, _, _, none⟩) (v := ?_) #[true, true, true, true, true, true, true] rfl (by kernel_rfl) (by kernel_rfl) (by kernel_rfl) (fun _ _ _ h => h) hS ?_ rfl ?_
  rotate_left
  · refine Or.inl ⟨rfl, fun W hW => ?_⟩
    dsimp only at hW
    have hx0 := (hW.cell (p := ⟨w.heap.size, 0, none⟩) (show w.heap.size < _ by omega)).trans hc10
    go_simp
    try rfl
  try simp only [Act.put, List.setIfInBounds_toArray, List.set_cons_zero, List.set_cons_succ]
  refine anyH_forget (F := (fun W => Below w1.heap.size w1 W ∧ Own W (w.heap.size + 1) (.slice (some ⟨w1.heap.size + 1, 0, none⟩) 1 1) [[109, 97, 115, 107]])) ⟨hS, Own.at (by ((try (simp only [alloc_drew, heap_drew])); first | exact heap_alloc_new _ _ | exact hp1 _ _ _ | exact hp2 _ _ _ _ | exact hp3 _ _ _ _ _ | exact hq1 _ _ _ | exact hq2 _ _ _ _ | exact hq3 _ _ _ _ _ | exact hr2 _ _ _ _ | exact hr3 _ _ _ _ _ | (simp; done))) rfl (by omega) (by omega)⟩ ?_
  rintro w3 ⟨hB3, hown3⟩
  refine wpAnyH_done (by kernel_rfl) ?_ _
  skip
  have hrow3 := (hB3.block w.heap.size (by omega)).trans hrow1
  have hB3' := hB1.trans (hB3.mono (by omega))
  have hs3 := hB3.size
  have hs3' : w.heap.size < w3.heap.size := by omega
  have hG3 := hG.below hB3'
  clear hS hc10 hb1 hB3 hs3 hs1 hrow1 hB1
  generalize hv3 : Value.slice (some ⟨w1.heap.size + 1, 0, none⟩) 1 1 = v3 at hown3 ⊢
  clear hv3
  have hc3 := rowc hrow3
  have hc3_0 := hc3 0
  have hc3_1 := hc3 1
  have hc3_3 := hc3 3
  have hc3_4 := hc3 4
  have hc3_5 := hc3 5
  simp only [List.getElem?_cons_zero, List.getElem?_cons_succ] at hc3_0 hc3_1 hc3_3 hc3_4 hc3_5
  clear hc3
  go_wp2_with (first | (go_at_call 60; (with_reducible refine (hex60S data hd0 hd1 w3 hG3).mono ?_); rintro e wc8 ⟨rfl, hbc8⟩) | (at_builtin; have hownq8 := (hown3.below hbc8).below ((Below.refl _ _).alloc (Nat.le_refl _) (.cells #[str (hexN 8 data.toNat)] 9)); have hrowq8 := (Below.heap_alloc wc8 (.cells #[str (hexN 8 data.toNat)] 9) _ (heap_lt ((hbc8.block w.heap.size (heap_lt hrow3)).trans hrow3))).trans ((hbc8.block w.heap.size (heap_lt hrow3)).trans hrow3); refine wpl_app rfl (.tmp 39) (.tmp 43) rfl (w.heap.size + 1) v3 _ [hexN 8 data.toNat] (wc8).heap.size 1 rfl rfl rfl hownq8 (heap_alloc_new _ _) (by simp) (by have := heap_lt ((hbc8.block w.heap.size (heap_lt hrow3)).trans hrow3); simp; omega) ?_; intro v8 w8 hown8 hg8; simp only [List.cons_append, List.nil_append] at hown8; have hrow8 := Own.keep hownq8 hg8 hrowq8 (by decide); have hB8' : Below w.heap.size w w8 := (Below.alloc (hB3'.trans (hbc8.mono hB3'.size)) (by have := heap_lt ((hbc8.block w.heap.size (heap_lt hrow3)).trans hrow3); omega) (.cells #[str (hexN 8 data.toNat)] 9)).trans ((Own.grown hownq8 hg8 (by have := heap_lt ((hbc8.block w.heap.size (heap_lt hrow3)).trans hrow3); simp; omega)).mono (by omega)); have hG8 := hG.below hB8'; have hc8 := rowc hrow8; have hc8_0 := hc8 0; have hc8_5 := hc8 5; simp only [List.getElem?_cons_zero, List.getElem?_cons_succ] at hc8_0 hc8_5; clear hc8) | (go_at_call 55; (with_reducible refine (join55 w8 (w.heap.size + 1) v8 _ hown8 (by simp) hlen'.out).mono ?_); rintro e w19 ⟨rfl, hb19⟩))
  go_ret2
  exact ⟨rfl, hB8'.trans (hb19.mono hB8'.size)⟩
set_option maxRecDepth 100000 in
set_option maxHeartbeats 2000000 in
theorem line_9 (k ix wo li rw rf rt rk : Int) (on rd wr lk : Bool) (w : World) (hG : Glob w) (hcr : Hid (insRight ⟨9, 0, 0, false, 0, 0, ⟨k, ix, wo, li, ⟨on, rw, rf, rt, rd, wr, rk, lk⟩⟩⟩ = true)) (hfit : Ins.Fit ⟨9, 0, 0, false, 0, 0, ⟨k, ix, wo, li, ⟨on, rw, rf, rt, rd, wr, rk, lk⟩⟩⟩) (hcf : Cmd.Fit ⟨k, ix, wo, li, ⟨on, rw, rf, rt, rd, wr, rk, lk⟩⟩) (hcc : Hid (cmdRight ⟨k, ix, wo, li, ⟨on, rw, rf, rt, rd, wr, rk, lk⟩⟩ = true)) (hlen : (Lib.join [[99, 111, 110, 102], cmdText ⟨k, ix, wo, li, ⟨on, rw, rf, rt, rd, wr, rk, lk⟩⟩] [32]).length ≤ 140737488355328) :
    Calls Tryz.prog 22 #[.agg #[.int .i64 9, .int .i64 0, .int .u32 0, .bool false, .int .u32 0, .int .i64 0, .int .i64 k, .int .i64 ix, .int .i64 wo, .int .i64 li, .bool on, .int .i64 rw, .int .u32 rf, .int .u32 rt, .bool rd, .bool wr, .int .i64 rk, .bool lk]] w fun e w' => e = .returned (.tuple #[.string ⟨(Lib.join [[99, 111, 110, 102], cmdText ⟨k, ix, wo, li, ⟨on, rw, rf, rt, rd, wr, rk, lk⟩⟩] [32]).toArray⟩, .int .i64 0]) ∧ Below w.heap.size w w' := by
  have hcall := fun W => instr_any ⟨9, 0, 0, false, 0, 0, ⟨k, ix, wo, li, ⟨on, rw, rf, rt, rd, wr, rk, lk⟩⟩⟩ hfit W
  rw [hcr.out] at hcall
  clear hcr hfit
  have hlen' := Lib.hid hlen
  clear hlen
  go_enter Tryz.func22, Tryz.ntmps22
  go_wp2_with (first | ((with_reducible refine wpl_load 33 _ rfl ?_ w.heap.size 0 ?_ _ _ (CellsAt.new _ _ _) Tryz.underlying33 rfl (by kernel_rfl) ?_); (· rfl); (· rfl)) | (go_at_call 15; (refine (hcall _).mono ?_); rintro e w1 ⟨rfl, hb1⟩; have hrow1 := (hb1.block w.heap.size (by simp)).trans (heap_alloc_new w _); have hs1 := hb1.size; simp at hs1))
  have hB1 : Below w.heap.size w w1 := ((Below.refl _ _).alloc (Nat.le_refl _) _).trans (hb1.mono (by simp))
  have hc10 := rowc hrow1 0
  simp only [List.getElem?_cons_zero] at hc10
  clear hcall
  refine region_start (S := (fun W => Below w1.heap.size w1 W)) 7 rfl #[false, false, false, false, false, false, false] rfl (by kernel_rfl) ?_
  refine region_s ?_ ?_
  · (show Below _ _ _; repeat (first | exact Below.refl _ _ | assumption | refine Below.drew ?_ | refine Below.alloc ?_ (by first | omega | (simp; done) | (simp; omega) | (simp [World.setCell]; omega)) _ | refine Below.setCell ?_ (by first | omega | (simp; done) | (simp; omega) | (simp [World.setCell]; omega)) _ | refine below_setRow ?_ (by first | omega | (simp; done) | (simp; omega) | (simp [World.setCell]; omega)) _ | (refine Below.trans ?_ (Below.mono (by assumption) (by first | omega | (simp; done) | (simp; omega) | (simp [World.setCell]; omega))))))
  intro hS
  refine region_take (i := 1) (oi := ⟨(some 11), (Op.fieldAddr 33 (Operand.tmp 1) 0), 0, _, _, none⟩) (v := ?_) #[false, true, false, false, false, false, false] rfl (by kernel_rfl) (by kernel_rfl) (by kernel_rfl) (fun _ _ _ h => h) hS ?_ rfl ?_
  rotate_left
  · refine Or.inl ⟨rfl, fun W hW => ?_⟩
    dsimp only at hW
    have hx0 := (hW.cell (p := ⟨w.heap.size, 0, none⟩) (show w.heap.size < _ by omega)).trans hc10
    go_simp
    try rfl
  try simp only [Act.put, List.setIfInBounds_toArray, List.set_cons_zero, List.set_cons_succ]
  refine region_take (i := 2) (oi := ⟨(some 12), (Op.load 23 (Operand.tmp 11)), 23, _, _, none⟩) (v := ?_) #[false, true, true, false, false, false, false] rfl (by kernel_rfl) (by kernel_rfl) (by kernel_rfl) (fun _ _ _ h => h) hS ?_ rfl ?_
  rotate_left
  · refine Or.inl ⟨rfl, fun W hW => ?_⟩
    dsimp only at hW
    have hx0 := (hW.cell (p := ⟨w.heap.size, 0, none⟩) (show w.heap.size < _ by omega)).trans hc10
    go_simp
    try rfl
  try simp only [Act.put, List.setIfInBounds_toArray, List.set_cons_zero, List.set_cons_succ]
  refine region_op (i := 0) (oi := ⟨(some 10), (Op.call { callee := (Callee.value (Operand.func 45)), args := #[], argTypes := #[] }), 85, _, _, none⟩) #[true, true, true, false, false, false, false] rfl (by kernel_rfl) rfl rfl ?_
  intro K hK
  go_simp; refine (mapKinds_any _).mono ?_; rintro e w2 ⟨rfl, rfl⟩
  refine hK _ _ ⟨?_, fun hS => ?_⟩
  · (show Below _ _ _; repeat (first | exact Below.refl _ _ | assumption | refine Below.drew ?_ | refine Below.alloc ?_ (by first | omega | (simp; done) | (simp; omega) | (simp [World.setCell]; omega)) _ | refine Below.setCell ?_ (by first | omega | (simp; done) | (simp; omega) | (simp [World.setCell]; omega)) _ | refine below_setRow ?_ (by first | omega | (simp; done) | (simp; omega) | (simp [World.setCell]; omega)) _ | (refine Below.trans ?_ (Below.mono (by assumption) (by first | omega | (simp; done) | (simp; omega) | (simp [World.setCell]; omega))))))
  try simp only [Act.put, List.setIfInBounds_toArray, List.set_cons_zero, List.set_cons_succ]
  refine region_op (i := 3) (oi := ⟨(some 13), (Op.lookup 85 (Operand.tmp 10) (Operand.tmp 12) false), 83, _, _, none⟩) #[true, true, true, true, false, false, false] rfl (by kernel_rfl) rfl rfl ?_
  intro K hK
  refine wp_lookK1 _ _ 9 (kindV [99, 111, 110, 102] 112) 8 _ rfl rfl rfl rfl ?_ ?_; (· ((try (simp only [alloc_drew, heap_drew])); first | exact heap_alloc_new _ _ | exact hp1 _ _ _ | exact hp2 _ _ _ _ | exact hp3 _ _ _ _ _ | exact hq1 _ _ _ | exact hq2 _ _ _ _ | exact hq3 _ _ _ _ _ | exact hr2 _ _ _ _ | exact hr3 _ _ _ _ _ | (simp; done)))
  refine hK _ _ ⟨?_, fun hS => ?_⟩
  · (show Below _ _ _; repeat (first | exact Below.refl _ _ | assumption | refine Below.drew ?_ | refine Below.alloc ?_ (by first | omega | (simp; done) | (simp; omega) | (simp [World.setCell]; omega)) _ | refine Below.setCell ?_ (by first | omega | (simp; done) | (simp; omega) | (simp [World.setCell]; omega)) _ | refine below_setRow ?_ (by first | omega | (simp; done) | (simp; omega) | (simp [World.setCell]; omega)) _ | (refine Below.trans ?_ (Below.mono (by assumption) (by first | omega | (simp; done) | (simp; omega) | (simp [World.setCell]; omega))))))
  try simp only [Act.put, List.setIfInBounds_toArray, List.set_cons_zero, List.set_cons_succ]
  refine region_take (i := 4) (oi := ⟨(some 14), (Op.field 83 (Operand.tmp 13) 0), 9, _, _, none⟩) (v := ?_) #[true, true, true, true, true, false, false] rfl (by kernel_rfl) (by kernel_rfl) (by kernel_rfl) (fun _ _ _ h => h) hS ?_ rfl ?_
  rotate_left
  · refine Or.inl ⟨rfl, fun W hW => ?_⟩
    dsimp only at hW
    have hx0 := (hW.cell (p := ⟨w.heap.size, 0, none⟩) (show w.heap.size < _ by omega)).trans hc10
    go_simp
    try rfl
  try simp only [Act.put, List.setIfInBounds_toArray, List.set_cons_zero, List.set_cons_succ]
  refine region_op (i := 5) (oi := ⟨(some 15), (Op.buildSlice 43 1 #[(0, (Operand.tmp 14))]), 43, _, _, none⟩) #[true, true, true, true, true, true, false] rfl (by kernel_rfl) rfl rfl ?_
  intro K hK
  go_simp
  refine hK _ _ ⟨?_, fun hS => ?_⟩
  · (show Below _ _ _; repeat (first | exact Below.refl _ _ | assumption | refine Below.drew ?_ | refine Below.alloc ?_ (by first | omega | (simp; done) | (simp; omega) | (simp [World.setCell]; omega)) _ | refine Below.setCell ?_ (by first | omega | (simp; done) | (simp; omega) | (simp [World.setCell]; omega)) _ | refine below_setRow ?_ (by first | omega | (simp; done) | (simp; omega) | (simp [World.setCell]; omega)) _ | (refine Below.trans ?_ (Below.mono (by assumption) (by first | omega | (simp; done) | (simp; omega) | (simp [World.setCell]; omega))))))
  try simp only [Act.put, List.setIfInBounds_toArray, List.set_cons_zero, List.set_cons_succ]
  refine region_take (i := 6) (oi := ⟨(some 4), (Op.assign (Operand.tmp 15)), 43, _, _, none⟩) (v := ?_) #[true, true, true, true, true, true, true] rfl (by kernel_rfl) (by kernel_rfl) (by kernel_rfl) (fun _ _ _ h => h) hS ?_ rfl ?_
  rotate_left
  · refine Or.inl ⟨rfl, fun W hW => ?_⟩
    dsimp only at hW
    have hx0 := (hW.cell (p := ⟨w.heap.size, 0, none⟩) (show w.heap.size < _ by omega)).trans hc10
    go_simp
    try rfl
  try simp only [Act.put, List.setIfInBounds_toArray, List.set_cons_zero, List.set_cons_succ]
  refine anyH_forget (F := (fun W => Below w1.heap.size w1 W ∧ Own W (w.heap.size + 1) (.slice (some ⟨w1.heap.size + 1, 0, none⟩) 1 1) [[99, 111, 110, 102]])) ⟨hS, Own.at (by ((try (simp only [alloc_drew, heap_drew])); first | exact heap_alloc_new _ _ | exact hp1 _ _ _ | exact hp2 _ _ _ _ | exact hp3 _ _ _ _ _ | exact hq1 _ _ _ | exact hq2 _ _ _ _ | exact hq3 _ _ _ _ _ | exact hr2 _ _ _ _ | exact hr3 _ _ _ _ _ | (simp; done))) rfl (by omega) (by omega)⟩ ?_
  rintro w3 ⟨hB3, hown3⟩
  refine wpAnyH_done (by kernel_rfl) ?_ _
  skip
  have hrow3 := (hB3.block w.heap.size (by omega)).trans hrow1
  have hB3' := hB1.trans (hB3.mono (by omega))
  have hs3 := hB3.size
  have hs3' : w.heap.size < w3.heap.size := by omega
  have hG3 := hG.below hB3'
  clear hS hc10 hb1 hB3 hs3 hs1 hrow1 hB1
  generalize hv3 : Value.slice (some ⟨w1.heap.size + 1, 0, none⟩) 1 1 = v3 at hown3 ⊢
  clear hv3
  have hc3 := rowc hrow3
  have hc3_0 := hc3 0
  have hc3_1 := hc3 1
  have hc3_3 := hc3 3
  have hc3_4 := hc3 4
  have hc3_5 := hc3 5
  simp only [List.getElem?_cons_zero, List.getElem?_cons_succ] at hc3_0 hc3_1 hc3_3 hc3_4 hc3_5
  clear hc3
  go_wp2_with (first | ((with_reducible refine wpl_load 31 _ rfl ?_ w.heap.size 6 ?_ _ _ (CellsAt.sub hrow3 6 12) Tryz.underlying31 rfl ?_ ?_); (· rfl); (· rfl); (· kernel_rfl)) | (go_at_call 61; (refine (show_yes ⟨k, ix, wo, li, ⟨on, rw, rf, rt, rd, wr, rk, lk⟩⟩ w3 hG3 hcf hcc.out).mono ?_); rintro e wc8 ⟨rfl, hbc8⟩) | (at_builtin; have hownq8 := (hown3.below hbc8).below ((Below.refl _ _).alloc (Nat.le_refl _) (.cells #[str (cmdText ⟨k, ix, wo, li, ⟨on, rw, rf, rt, rd, wr, rk, lk⟩⟩)] 9)); have hrowq8 := (Below.heap_alloc wc8 (.cells #[str (cmdText ⟨k, ix, wo, li, ⟨on, rw, rf, rt, rd, wr, rk, lk⟩⟩)] 9) _ (heap_lt ((hbc8.block w.heap.size (heap_lt hrow3)).trans hrow3))).trans ((hbc8.block w.heap.size (heap_lt hrow3)).trans hrow3); refine wpl_app rfl (.tmp 62) (.tmp 64) rfl (w.heap.size + 1) v3 _ [cmdText ⟨k, ix, wo, li, ⟨on, rw, rf, rt, rd, wr, rk, lk⟩⟩] (wc8).heap.size 1 rfl rfl rfl hownq8 (heap_alloc_new _ _) (by simp) (by have := heap_lt ((hbc8.block w.heap.size (heap_lt hrow3)).trans hrow3); simp; omega) ?_; intro v8 w8 hown8 hg8; simp only [List.cons_append, List.nil_append] at hown8; have hrow8 := Own.keep hownq8 hg8 hrowq8 (by decide); have hB8' : Below w.heap.size w w8 := (Below.alloc (hB3'.trans (hbc8.mono hB3'.size)) (by have := heap_lt ((hbc8.block w.heap.size (heap_lt hrow3)).trans hrow3); omega) (.cells #[str (cmdText ⟨k, ix, wo, li, ⟨on, rw, rf, rt, rd, wr, rk, lk⟩⟩)] 9)).trans ((Own.grown hownq8 hg8 (by have := heap_lt ((hbc8.block w.heap.size (heap_lt hrow3)).trans hrow3); simp; omega)).mono (by omega)); have hG8 := hG.below hB8'; have hc8 := rowc hrow8; have hc8_0 := hc8 0; have hc8_5 := hc8 5; simp only [List.getElem?_cons_zero, List.getElem?_cons_succ] at hc8_0 hc8_5; clear hc8) | (go_at_call 55; (with_reducible refine (join55 w8 (w.heap.size + 1) v8 _ hown8 (by simp) hlen'.out).mono ?_); rintro e w19 ⟨rfl, hb19⟩))
  go_ret2
  exact ⟨rfl, hB8'.trans (hb19.mono hB8'.size)⟩
set_option maxRecDepth 100000 in
set_option maxHeartbeats 2000000 in
theorem line_10 (w : World) (hG : Glob w) (hcr : Hid (insRight ⟨10, 0, 0, false, 0, 0, ⟨0, 0, 0, 0, ⟨false, 0, 0, 0, false, false, 0, false⟩⟩⟩ = true)) (hfit : Ins.Fit ⟨10, 0, 0, false, 0, 0, ⟨0, 0, 0, 0, ⟨false, 0, 0, 0, false, false, 0, false⟩⟩⟩) (hlen : (Lib.join [[104, 97, 108, 116]] [32]).length ≤ 140737488355328) :
    Calls Tryz.prog 22 #[.agg #[.int .i64 10, .int .i64 0, .int .u32 0, .bool false, .int .u32 0, .int .i64 0, .int .i64 0, .int .i64 0, .int .i64 0, .int .i64 0, .bool false, .int .i64 0, .int .u32 0, .int .u32 0, .bool false, .bool false, .int .i64 0, .bool false]] w fun e w' => e = .returned (.tuple #[.string ⟨(Lib.join [[104, 97, 108, 116]] [32]).toArray⟩, .int .i64 0]) ∧ Below w.heap.size w w' := by
  have hcall := fun W => instr_any ⟨10, 0, 0, false, 0, 0, ⟨0, 0, 0, 0, ⟨false, 0, 0, 0, false, false, 0, false⟩⟩⟩ hfit W
  rw [hcr.out] at hcall
  clear hcr hfit
  have hlen' := Lib.hid hlen
  clear hlen
  go_enter Tryz.func22, Tryz.ntmps22
  go_wp2_with (first | ((with_reducible refine wpl_load 33 _ rfl ?_ w.heap.size 0 ?_ _ _ (CellsAt.new _ _ _) Tryz.underlying33 rfl (by kernel_rfl) ?_); (· rfl); (· rfl)) | (go_at_call 15; (refine (hcall _).mono ?_); rintro e w1 ⟨rfl, hb1⟩; have hrow1 := (hb1.block w.heap.size (by simp)).trans (heap_alloc_new w _); have hs1 := hb1.size; simp at hs1))
  have hB1 : Below w.heap.size w w1 := ((Below.refl _ _).alloc (Nat.le_refl _) _).trans (hb1.mono (by simp))
  have hc10 := rowc hrow1 0
  simp only [List.getElem?_cons_zero] at hc10
  clear hcall
  refine region_start (S := (fun W => Below w1.heap.size w1 W)) 7 rfl #[false, false, false, false, false, false, false] rfl (by kernel_rfl) ?_
  refine region_s ?_ ?_
  · (show Below _ _ _; repeat (first | exact Below.refl _ _ | assumption | refine Below.drew ?_ | refine Below.alloc ?_ (by first | omega | (simp; done) | (simp; omega) | (simp [World.setCell]; omega)) _ | refine Below.setCell ?_ (by first | omega | (simp; done) | (simp; omega) | (simp [World.setCell]; omega)) _ | refine below_setRow ?_ (by first | omega | (simp; done) | (simp; omega) | (simp [World.setCell]; omega)) _ | (refine Below.trans ?_ (Below.mono (by assumption) (by first | omega | (simp; done) | (simp; omega) | (simp [World.setCell]; omega))))))
  intro hS
  refine region_take (i := 1) (oi := ⟨(some 11), (Op.fieldAddr 33 (Operand.tmp 1) 0), 0, _, _, none⟩) (v := ?_) #[false, true, false, false, false, false, false] rfl (by kernel_rfl) (by kernel_rfl) (by kernel_rfl) (fun _ _ _ h => h) hS ?_ rfl ?_
  rotate_left
  · refine Or.inl ⟨rfl, fun W hW => ?_⟩
    dsimp only at hW
    have hx0 := (hW.cell (p := ⟨w.heap.size, 0, none⟩) (show w.heap.size < _ by omega)).trans hc10
    go_simp
    try rfl
  try simp only [Act.put, List.setIfInBounds_toArray, List.set_cons_zero, List.set_cons_succ]
  refine region_take (i := 2) (oi := ⟨(some 12), (Op.load 23 (Operand.tmp 11)), 23, _, _, none⟩) (v := ?_) #[false, true, true, false, false, false, false] rfl (by kernel_rfl) (by kernel_rfl) (by kernel_rfl) (fun _ _ _ h => h) hS ?_ rfl ?_
  rotate_left
  · refine Or.inl ⟨rfl, fun W hW => ?_⟩
    dsimp only at hW
    have hx0 := (hW.cell (p := ⟨w.heap.size, 0, none⟩) (show w.heap.size < _ by omega)).trans hc10
    go_simp
    try rfl
  try simp only [Act.put, List.setIfInBounds_toArray, List.set_cons_zero, List.set_cons_succ]
  refine region_op (i := 0) (oi := ⟨(some 10), (Op.call { callee := (Callee.value (Operand.func 45)), args := #[], argTypes := #[] }), 85, _, _, none⟩) #[true, true, true, false, false, false, false] rfl (by kernel_rfl) rfl rfl ?_
  intro K hK
  go_simp; refine (mapKinds_any _).mono ?_; rintro e w2 ⟨rfl, rfl⟩
  refine hK _ _ ⟨?_, fun hS => ?_⟩
  · (show Below _ _ _; repeat (first | exact Below.refl _ _ | assumption | refine Below.drew ?_ | refine Below.alloc ?_ (by first | omega | (simp; done) | (simp; omega) | (simp [World.setCell]; omega)) _ | refine Below.setCell ?_ (by first | omega | (simp; done) | (simp; omega) | (simp [World.setCell]; omega)) _ | refine below_setRow ?_ (by first | omega | (simp; done) | (simp; omega) | (simp [World.setCell]; omega)) _ | (refine Below.trans ?_ (Below.mono (by assumption) (by first | omega | (simp; done) | (simp; omega) | (simp [World.setCell]; omega))))))
  try simp only [Act.put, List.setIfInBounds_toArray, List.set_cons_zero, List.set_cons_succ]
  refine region_op (i := 3) (oi := ⟨(some 13), (Op.lookup 85 (Operand.tmp 10) (Operand.tmp 12) false), 83, _, _, none⟩) #[true, true, true, true, false, false, false] rfl (by kernel_rfl) rfl rfl ?_
  intro K hK
  refine wp_lookK1 _ _ 10 (kindV [104, 97, 108, 116] 107) 9 _ rfl rfl rfl rfl ?_ ?_; (· ((try (simp only [alloc_drew, heap_drew])); first | exact heap_alloc_new _ _ | exact hp1 _ _ _ | exact hp2 _ _ _ _ | exact hp3 _ _ _ _ _ | exact hq1 _ _ _ | exact hq2 _ _ _ _ | exact hq3 _ _ _ _ _ | exact hr2 _ _ _ _ | exact hr3 _ _ _ _ _ | (simp; done)))
  refine hK _ _ ⟨?_, fun hS => ?_⟩
  · (show Below _ _ _; repeat (first | exact Below.refl _ _ | assumption | refine Below.drew ?_ | refine Below.alloc ?_ (by first | omega | (simp; done) | (simp; omega) | (simp [World.setCell]; omega)) _ | refine Below.setCell ?_ (by first | omega | (simp; done) | (simp; omega) | (simp [World.setCell]; omega)) _ | refine below_setRow ?_ (by first | omega | (simp; done) | (simp; omega) | (simp [World.setCell]; omega)) _ | (refine Below.trans ?_ (Below.mono (by assumption) (by first | omega | (simp; done) | (simp; omega) | (simp [World.setCell]; omega))))))
  try simp only [Act.put, List.setIfInBounds_toArray, List.set_cons_zero, List.set_cons_succ]
  refine region_take (i := 4) (oi := ⟨(some 14), (Op.field 83 (Operand.tmp 13) 0), 9, _, _, none⟩) (v := ?_) #[true, true, true, true, true, false, false] rfl (by kernel_rfl) (by kernel_rfl) (by kernel_rfl) (fun _ _ _ h => h) hS ?_ rfl ?_
  rotate_left
  · refine Or.inl ⟨rfl, fun W hW => ?_⟩
    dsimp only at hW
    have hx0 := (hW.cell (p := ⟨w.heap.size, 0, none⟩) (show w.heap.size < _ by omega)).trans hc10
    go_simp
    try rfl
  try simp only [Act.put, List.setIfInBounds_toArray, List.set_cons_zero, List.set_cons_succ]
  refine region_op (i := 5) (oi := ⟨(some 15), (Op.buildSlice 43 1 #[(0, (Operand.tmp 14))]), 43, _, _, none⟩) #[true, true, true, true, true, true, false] rfl (by kernel_rfl) rfl rfl ?_
  intro K hK
  go_simp
  refine hK _ _ ⟨?_, fun hS => ?_⟩
  · (show Below _ _ _; repeat (first | exact Below.refl _ _ | assumption | refine Below.drew ?_ | refine Below.alloc ?_ (by first | omega | (simp; done) | (simp; omega) | (simp [World.setCell]; omega)) _ | refine Below.setCell ?_ (by first | omega | (simp; done) | (simp; omega) | (simp [World.setCell]; omega)) _ | refine below_setRow ?_ (by first | omega | (simp; done) | (simp; omega) | (simp [World.setCell]; omega)) _ | (refine Below.trans ?_ (Below.mono (by assumption) (by first | omega | (simp; done) | (simp; omega) | (simp [World.setCell]; omega))))))
  try simp only [Act.put, List.setIfInBounds_toArray, List.set_cons_zero, List.set_cons_succ]
  refine region_take (i := 6) (oi := ⟨(some 4), (Op.assign (Operand.tmp 15)), 43, _, _, none⟩) (v := ?_) #[true, true, true, true, true, true, true] rfl (by kernel_rfl) (by kernel_rfl) (by kernel_rfl) (fun _ _ _ h => h) hS ?_ rfl ?_
  rotate_left
  · refine Or.inl ⟨rfl, fun W hW => ?_⟩
    dsimp only at hW
    have hx0 := (hW.cell (p := ⟨w.heap.size, 0, none⟩) (show w.heap.size < _ by omega)).trans hc10
    go_simp
    try rfl
  try simp only [Act.put, List.setIfInBounds_toArray, List.set_cons_zero, List.set_cons_succ]
  refine anyH_forget (F := (fun W => Below w1.heap.size w1 W ∧ Own W (w.heap.size + 1) (.slice (some ⟨w1.heap.size + 1, 0, none⟩) 1 1) [[104, 97, 108, 116]])) ⟨hS, Own.at (by ((try (simp only [alloc_drew, heap_drew])); first | exact heap_alloc_new _ _ | exact hp1 _ _ _ | exact hp2 _ _ _ _ | exact hp3 _ _ _ _ _ | exact hq1 _ _ _ | exact hq2 _ _ _ _ | exact hq3 _ _ _ _ _ | exact hr2 _ _ _ _ | exact hr3 _ _ _ _ _ | (simp; done))) rfl (by omega) (by omega)⟩ ?_
  rintro w3 ⟨hB3, hown3⟩
  refine wpAnyH_done (by kernel_rfl) ?_ _
  skip
  have hrow3 := (hB3.block w.heap.size (by omega)).trans hrow1
  have hB3' := hB1.trans (hB3.mono (by omega))
  have hs3 := hB3.size
  have hs3' : w.heap.size < w3.heap.size := by omega
  have hG3 := hG.below hB3'
  clear hS hc10 hb1 hB3 hs3 hs1 hrow1 hB1
  generalize hv3 : Value.slice (some ⟨w1.heap.size + 1, 0, none⟩) 1 1 = v3 at hown3 ⊢
  clear hv3
  have hc3 := rowc hrow3
  have hc3_0 := hc3 0
  have hc3_1 := hc3 1
  have hc3_3 := hc3 3
  have hc3_4 := hc3 4
  have hc3_5 := hc3 5
  simp only [List.getElem?_cons_zero, List.getElem?_cons_succ] at hc3_0 hc3_1 hc3_3 hc3_4 hc3_5
  clear hc3
  go_wp2_with (first | (go_at_call 55; (with_reducible refine (join55 w3 (w.heap.size + 1) v3 _ hown3 (by simp) hlen'.out).mono ?_); rintro e w19 ⟨rfl, hb19⟩))
  go_ret2
  exact ⟨rfl, hB3'.trans (hb19.mono hB3'.size)⟩
end Go.Proofs.YtmjojlacpgdomaaGreatDoor
