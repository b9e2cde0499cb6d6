import Derived.Test.YtmjojlacpgdomaaGreatDoorBline0
/-! prog.Line: load, store -/
namespace Go.Proofs.YtmjojlacpgdomaaGreatDoor
set_option linter.unusedSimpArgs false
set_option linter.unusedVariables false
open Go Go.RowKit
attribute [local go_sem] setRow_new setRow_old
set_option maxRecDepth 100000 in
set_option maxHeartbeats 2000000 in
theorem line_1 (size addr : Int) (w : World) (hG : Glob w) (hcr : Hid (insRight ⟨1, size, addr, false, 0, 0, ⟨0, 0, 0, 0, ⟨false, 0, 0, 0, false, false, 0, false⟩⟩⟩ = true)) (hfit : Ins.Fit ⟨1, size, addr, false, 0, 0, ⟨0, 0, 0, 0, ⟨false, 0, 0, 0, false, false, 0, false⟩⟩⟩) (hsz0 : 0 < size) (hsz1 : size ≤ 4) (had0 : 0 ≤ addr) (had1 : addr < 4294967296) (hlen : (Lib.join [[108, 111, 97, 100], Lib.itoa size, hexN 8 addr.toNat] [32]).length ≤ 140737488355328) :
    Calls Tryz.prog 22 #[.agg #[.int .i64 1, .int .i64 size, .int .u32 addr, .bool false, .int .u32 0, .int .i64 0, .int .i64 0, .int .i64 0, .int .i64 0, .int .i64 0, .bool false, .int .i64 0, .int .u32 0, .int .u32 0, .bool false, .bool false, .int .i64 0, .bool false]] w fun e w' => e = .returned (.tuple #[.string ⟨(Lib.join [[108, 111, 97, 100], Lib.itoa size, hexN 8 addr.toNat] [32]).toArray⟩, .int .i64 0]) ∧ Below w.heap.size w w' := by
  have hcall := fun W => instr_any ⟨1, size, addr, false, 0, 0, ⟨0, 0, 0, 0, ⟨false, 0, 0, 0, false, false, 0, false⟩⟩⟩ hfit W
  rw [hcr.out] at hcall
  clear hcr hfit
  have hlen' := Lib.hid hlen
  clear hlen
  go_enter Tryz.func22, Tryz.ntmps22
  go_wp2_with (first | ((with_reducible refine wpl_load 33 _ rfl ?_ w.heap.size 0 ?_ _ _ (CellsAt.new _ _ _) Tryz.underlying33 rfl (by kernel_rfl) ?_); (· rfl); (· rfl)) | (go_at_call 15; (refine (hcall _).mono ?_); rintro e w1 ⟨rfl, hb1⟩; have hrow1 := (hb1.block w.heap.size (by simp)).trans (heap_alloc_new w _); have hs1 := hb1.size; simp at hs1))
  have hB1 : Below w.heap.size w w1 := ((Below.refl _ _).alloc (Nat.le_refl _) _).trans (hb1.mono (by simp))
  have hc10 := rowc hrow1 0
  simp only [List.getElem?_cons_zero] at hc10
  clear hcall
  refine region_start (S := (fun W => Below w1.heap.size w1 W)) 7 rfl #[false, false, false, false, false, false, false] rfl (by kernel_rfl) ?_
  refine region_s ?_ ?_
  · (show Below _ _ _; repeat (first | exact Below.refl _ _ | assumption | refine Below.drew ?_ | refine Below.alloc ?_ (by first | omega | (simp; done) | (simp; omega) | (simp [World.setCell]; omega)) _ | refine Below.setCell ?_ (by first | omega | (simp; done) | (simp; omega) | (simp [World.setCell]; omega)) _ | refine below_setRow ?_ (by first | omega | (simp; done) | (simp; omega) | (simp [World.setCell]; omega)) _ | (refine Below.trans ?_ (Below.mono (by assumption) (by first | omega | (simp; done) | (simp; omega) | (simp [World.setCell]; omega))))))
  intro hS
  refine region_take (i := 1) (oi := ⟨(some 11), (Op.fieldAddr 33 (Operand.tmp 1) 0), 0, _, _, none⟩) (v := ?_) #[false, true, false, false, false, false, false] rfl (by kernel_rfl) (by kernel_rfl) (by kernel_rfl) (fun _ _ _ h => h) hS ?_ rfl ?_
  rotate_left
  · refine Or.inl ⟨rfl, fun W hW => ?_⟩
    dsimp only at hW
    have hx0 := (hW.cell (p := ⟨w.heap.size, 0, none⟩) (show w.heap.size < _ by omega)).trans hc10
    go_simp
    try rfl
  try simp only [Act.put, List.setIfInBounds_toArray, List.set_cons_zero, List.set_cons_succ]
  refine region_take (i := 2) (oi := ⟨(some 12), (Op.load 23 (Operand.tmp 11)), 23, _, _, none⟩) (v := ?_) #[false, true, true, false, false, false, false] rfl (by kernel_rfl) (by kernel_rfl) (by kernel_rfl) (fun _ _ _ h => h) hS ?_ rfl ?_
  rotate_left
  · refine Or.inl ⟨rfl, fun W hW => ?_⟩
    dsimp only at hW
    have hx0 := (hW.cell (p := ⟨w.heap.size, 0, none⟩) (show w.heap.size < _ by omega)).trans hc10
    go_simp
    try rfl
  try simp only [Act.put, List.setIfInBounds_toArray, List.set_cons_zero, List.set_cons_succ]
  refine region_op (i := 0) (oi := ⟨(some 10), (Op.call { callee := (Callee.value (Operand.func 45)), args := #[], argTypes := #[] }), 85, _, _, none⟩) #[true, true, true, false, false, false, false] rfl (by kernel_rfl) rfl rfl ?_
  intro K hK
  go_simp; refine (mapKinds_any _).mono ?_; rintro e w2 ⟨rfl, rfl⟩
  refine hK _ _ ⟨?_, fun hS => ?_⟩
  · (show Below _ _ _; repeat (first | exact Below.refl _ _ | assumption | refine Below.drew ?_ | refine Below.alloc ?_ (by first | omega | (simp; done) | (simp; omega) | (simp [World.setCell]; omega)) _ | refine Below.setCell ?_ (by first | omega | (simp; done) | (simp; omega) | (simp [World.setCell]; omega)) _ | refine below_setRow ?_ (by first | omega | (simp; done) | (simp; omega) | (simp [World.setCell]; omega)) _ | (refine Below.trans ?_ (Below.mono (by assumption) (by first | omega | (simp; done) | (simp; omega) | (simp [World.setCell]; omega))))))
  try simp only [Act.put, List.setIfInBounds_toArray, List.set_cons_zero, List.set_cons_succ]
  refine region_op (i := 3) (oi := ⟨(some 13), (Op.lookup 85 (Operand.tmp 10) (Operand.tmp 12) false), 83, _, _, none⟩) #[true, true, true, true, false, false, false] rfl (by kernel_rfl) rfl rfl ?_
  intro K hK
  refine wp_lookK1 _ _ 1 (kindV [108, 111, 97, 100] 105) 0 _ rfl rfl rfl rfl ?_ ?_; (· ((try (simp only [alloc_drew, heap_drew])); first | exact heap_alloc_new _ _ | exact hp1 _ _ _ | exact hp2 _ _ _ _ | exact hp3 _ _ _ _ _ | exact hq1 _ _ _ | exact hq2 _ _ _ _ | exact hq3 _ _ _ _ _ | exact hr2 _ _ _ _ | exact hr3 _ _ _ _ _ | (simp; done)))
  refine hK _ _ ⟨?_, fun hS => ?_⟩
  · (show Below _ _ _; repeat (first | exact Below.refl _ _ | assumption | refine Below.drew ?_ | refine Below.alloc ?_ (by first | omega | (simp; done) | (simp; omega) | (simp [World.setCell]; omega)) _ | refine Below.setCell ?_ (by first | omega | (simp; done) | (simp; omega) | (simp [World.setCell]; omega)) _ | refine below_setRow ?_ (by first | omega | (simp; done) | (simp; omega) | (simp [World.setCell]; omega)) _ | (refine Below.trans ?_ (Below.mono (by assumption) (by first | omega | (simp; done) | (simp; omega) | (simp [World.setCell]; omega))))))
  try simp only [Act.put, List.setIfInBounds_toArray, List.set_cons_zero, List.set_cons_succ]
  refine region_take (i := 4) (oi := ⟨(some 14), (Op.field 83 (Operand.tmp 13) 0), 9, _, _, none⟩) (v := ?_) #[true, true, true, true, true, false, false] rfl (by kernel_rfl) (by kernel_rfl) (by kernel_rfl) (fun _ _ _ h => h) hS ?_ rfl ?_
  rotate_left
  · refine Or.inl ⟨rfl, fun W hW => ?_⟩
    dsimp only at hW
    have hx0 := (hW.cell (p := ⟨w.heap.size, 0, none⟩) (show w.heap.size < _ by omega)).trans hc10
    go_simp
    try rfl
  try simp only [Act.put, List.setIfInBounds_toArray, List.set_cons_zero, List.set_cons_succ]
  refine region_op (i := 5) (oi := ⟨(some 15), (Op.buildSlice 43 1 #[(0, (Operand.tmp 14))]), 43, _, _, none⟩) #[true, true, true, true, true, true, false] rfl (by kernel_rfl) rfl rfl ?_
  intro K hK
  go_simp
  refine hK _ _ ⟨?_, fun hS => ?_⟩
  · (show Below _ _ _; repeat (first | exact Below.refl _ _ | assumption | refine Below.drew ?_ | refine Below.alloc ?_ (by first | omega | (simp; done) | (simp; omega) | (simp [World.setCell]; omega)) _ | refine Below.setCell ?_ (by first | omega | (simp; done) | (simp; omega) | (simp [World.setCell]; omega)) _ | refine below_setRow ?_ (by first | omega | (simp; done) | (simp; omega) | (simp [World.setCell]; omega)) _ | (refine Below.trans ?_ (Below.mono (by assumption) (by first | omega | (simp; done) | (simp; omega) | (simp [World.setCell]; omega))))))
  try simp only [Act.put, List.setIfInBounds_toArray, List.set_cons_zero, List.set_cons_succ]
  refine region_take (i := 6) (oi := ⟨(some 4), (Op.assign (Operand.tmp 15)), 43, _, _, none⟩) (v := ?_) #[true, true, true, true, true, true, true] rfl (by kernel_rfl) (by kernel_rfl) (by kernel_rfl) (fun _ _ _ h => h) hS ?_ rfl ?_
  rotate_left
  · refine Or.inl ⟨rfl, fun W hW => ?_⟩
    dsimp only at hW
    have hx0 := (hW.cell (p := ⟨w.heap.size, 0, none⟩) (show w.heap.size < _ by omega)).trans hc10
    go_simp
    try rfl
  try simp only [Act.put, List.setIfInBounds_toArray, List.set_cons_zero, List.set_cons_succ]
  refine anyH_forget (F := (fun W => Below w1.heap.size w1 W ∧ Own W (w.heap.size + 1) (.slice (some ⟨w1.heap.size + 1, 0, none⟩) 1 1) [[108, 111, 97, 100]])) ⟨hS, Own.at (by ((try (simp only [alloc_drew, heap_drew])); first | exact heap_alloc_new _ _ | exact hp1 _ _ _ | exact hp2 _ _ _ _ | exact hp3 _ _ _ _ _ | exact hq1 _ _ _ | exact hq2 _ _ _ _ | exact hq3 _ _ _ _ _ | exact hr2 _ _ _ _ | exact hr3 _ _ _ _ _ | (simp; done))) rfl (by omega) (by omega)⟩ ?_
  rintro w3 ⟨hB3, hown3⟩
  refine wpAnyH_done (by kernel_rfl) ?_ _
  skip
  have hrow3 := (hB3.block w.heap.size (by omega)).trans hrow1
  have hB3' := hB1.trans (hB3.mono (by omega))
  have hs3 := hB3.size
  have hs3' : w.heap.size < w3.heap.size := by omega
  have hG3 := hG.below hB3'
  clear hS hc10 hb1 hB3 hs3 hs1 hrow1 hB1
  generalize hv3 : Value.slice (some ⟨w1.heap.size + 1, 0, none⟩) 1 1 = v3 at hown3 ⊢
  clear hv3
  have hc3 := rowc hrow3
  have hc3_0 := hc3 0
  have hc3_1 := hc3 1
  have hc3_3 := hc3 3
  have hc3_4 := hc3 4
  have hc3_5 := hc3 5
  simp only [List.getElem?_cons_zero, List.getElem?_cons_succ] at hc3_0 hc3_1 hc3_3 hc3_4 hc3_5
  clear hc3
  go_wp2_with fail
  have hK3 : Kp w w.heap.size #[.int .i64 1, .int .i64 size, .int .u32 addr, .bool false, .int .u32 0, .int .i64 0, .int .i64 0, .int .i64 0, .int .i64 0, .int .i64 0, .bool false, .int .i64 0, .int .u32 0, .int .u32 0, .bool false, .bool false, .int .i64 0, .bool false] 33 w.heap.size #[.int .i64 1, .int .i64 size, .int .u32 addr, .bool false, .int .u32 0, .int .i64 0, .int .i64 0, .int .i64 0, .int .i64 0, .int .i64 0, .bool false, .int .i64 0, .int .u32 0, .int .u32 0, .bool false, .bool false, .int .i64 0, .bool false] 33 w3.heap.size w3 := ⟨hB3', hrow3, hrow3, Nat.le_refl _⟩
  refine region_start (S := (fun W => Kp w w.heap.size #[.int .i64 1, .int .i64 size, .int .u32 addr, .bool false, .int .u32 0, .int .i64 0, .int .i64 0, .int .i64 0, .int .i64 0, .int .i64 0, .bool false, .int .i64 0, .int .u32 0, .int .u32 0, .bool false, .bool false, .int .i64 0, .bool false] 33 w.heap.size #[.int .i64 1, .int .i64 size, .int .u32 addr, .bool false, .int .u32 0, .int .i64 0, .int .i64 0, .int .i64 0, .int .i64 0, .int .i64 0, .bool false, .int .i64 0, .int .u32 0, .int .u32 0, .bool false, .bool false, .int .i64 0, .bool false] 33 w3.heap.size W)) 10 rfl #[false, false, false, false, false, false, false, false, false, false] rfl (by kernel_rfl) ?_
  refine region_s ?_ ?_
  · first | exact hK3.drew | exact hS.below (by assumption) | exact hS.alloc _ | exact hS.app hownA hg5 (by omega) (by have := hS.sz; omega) (by decide) (by decide)
  intro hS
  refine region_take (i := 0) (oi := ⟨(some 19), (Op.move (Operand.tmp 4)), 43, _, _, none⟩) (v := ?_) #[true, false, false, false, false, false, false, false, false, false] rfl (by kernel_rfl) (by kernel_rfl) (by kernel_rfl) (fun _ _ _ h => h) hS ?_ rfl ?_
  rotate_left
  · refine Or.inl ⟨rfl, fun W hW => ?_⟩
    dsimp only at hW
    have hr := hW.r1
    have c1 := rowc hr 1
    have c2 := rowc hr 2
    simp only [List.getElem?_cons_zero, List.getElem?_cons_succ] at c1 c2
    go_simp
    try rfl
  try simp only [Act.put, List.setIfInBounds_toArray, List.set_cons_zero, List.set_cons_succ]
  refine region_take (i := 1) (oi := ⟨(some 20), (Op.fieldAddr 33 (Operand.tmp 1) 1), 0, _, _, none⟩) (v := ?_) #[true, true, false, false, false, false, false, false, false, false] rfl (by kernel_rfl) (by kernel_rfl) (by kernel_rfl) (fun _ _ _ h => h) hS ?_ rfl ?_
  rotate_left
  · refine Or.inl ⟨rfl, fun W hW => ?_⟩
    dsimp only at hW
    have hr := hW.r1
    have c1 := rowc hr 1
    have c2 := rowc hr 2
    simp only [List.getElem?_cons_zero, List.getElem?_cons_succ] at c1 c2
    go_simp
    try rfl
  try simp only [Act.put, List.setIfInBounds_toArray, List.set_cons_zero, List.set_cons_succ]
  refine region_take (i := 2) (oi := ⟨(some 21), (Op.load 3 (Operand.tmp 20)), 3, _, _, none⟩) (v := ?_) #[true, true, true, false, false, false, false, false, false, false] rfl (by kernel_rfl) (by kernel_rfl) (by kernel_rfl) (fun _ _ _ h => h) hS ?_ rfl ?_
  rotate_left
  · refine Or.inl ⟨rfl, fun W hW => ?_⟩
    dsimp only at hW
    have hr := hW.r1
    have c1 := rowc hr 1
    have c2 := rowc hr 2
    simp only [List.getElem?_cons_zero, List.getElem?_cons_succ] at c1 c2
    go_simp
    try rfl
  try simp only [Act.put, List.setIfInBounds_toArray, List.set_cons_zero, List.set_cons_succ]
  refine region_take (i := 4) (oi := ⟨(some 23), (Op.fieldAddr 33 (Operand.tmp 1) 2), 0, _, _, none⟩) (v := ?_) #[true, true, true, false, true, false, false, false, false, false] rfl (by kernel_rfl) (by kernel_rfl) (by kernel_rfl) (fun _ _ _ h => h) hS ?_ rfl ?_
  rotate_left
  · refine Or.inl ⟨rfl, fun W hW => ?_⟩
    dsimp only at hW
    have hr := hW.r1
    have c1 := rowc hr 1
    have c2 := rowc hr 2
    simp only [List.getElem?_cons_zero, List.getElem?_cons_succ] at c1 c2
    go_simp
    try rfl
  try simp only [Act.put, List.setIfInBounds_toArray, List.set_cons_zero, List.set_cons_succ]
  refine region_take (i := 5) (oi := ⟨(some 24), (Op.load 24 (Operand.tmp 23)), 24, _, _, none⟩) (v := ?_) #[true, true, true, false, true, true, false, false, false, false] rfl (by kernel_rfl) (by kernel_rfl) (by kernel_rfl) (fun _ _ _ h => h) hS ?_ rfl ?_
  rotate_left
  · refine Or.inl ⟨rfl, fun W hW => ?_⟩
    dsimp only at hW
    have hr := hW.r1
    have c1 := rowc hr 1
    have c2 := rowc hr 2
    simp only [List.getElem?_cons_zero, List.getElem?_cons_succ] at c1 c2
    go_simp
    try rfl
  try simp only [Act.put, List.setIfInBounds_toArray, List.set_cons_zero, List.set_cons_succ]
  refine region_op (i := 3) (oi := ⟨(some 22), (Op.call { callee := (Callee.value (Operand.func 59)), args := #[(Operand.tmp 21)], argTypes := #[3] }), 9, _, _, none⟩) #[true, true, true, true, true, true, false, false, false, false] rfl (by kernel_rfl) rfl rfl ?_
  intro K hK
  go_simp; refine (itoa_any size (by omega) (by omega) _ hG3.drew).mono ?_; rintro e wa ⟨rfl, hba⟩; have hGa := hG3.drew.below hba; have howna := (show Own w3.drew (w.heap.size + 1) v3 _ from hown3).below hba
  refine hK _ _ ⟨?_, fun hS => ?_⟩
  · first | exact hK3.drew | exact hS.below (by assumption) | exact hS.alloc _ | exact hS.app hownA hg5 (by omega) (by have := hS.sz; omega) (by decide) (by decide)
  try simp only [Act.put, List.setIfInBounds_toArray, List.set_cons_zero, List.set_cons_succ]
  refine region_op (i := 6) (oi := ⟨(some 25), (Op.call { callee := (Callee.value (Operand.func 60)), args := #[(Operand.tmp 24)], argTypes := #[24] }), 9, _, _, none⟩) #[true, true, true, true, true, true, true, false, false, false] rfl (by kernel_rfl) rfl rfl ?_
  intro K hK
  go_simp; refine (hex60S addr had0 had1 _ hGa).mono ?_; rintro e wb ⟨rfl, hbb⟩; have hGb := hGa.below hbb; have hownb := howna.below hbb
  refine hK _ _ ⟨?_, fun hS => ?_⟩
  · first | exact hK3.drew | exact hS.below (by assumption) | exact hS.alloc _ | exact hS.app hownA hg5 (by omega) (by have := hS.sz; omega) (by decide) (by decide)
  try simp only [Act.put, List.setIfInBounds_toArray, List.set_cons_zero, List.set_cons_succ]
  refine region_op (i := 7) (oi := ⟨(some 26), (Op.buildSlice 43 2 #[(0, (Operand.tmp 22)), (1, (Operand.tmp 25))]), 43, _, _, none⟩) #[true, true, true, true, true, true, true, true, false, false] rfl (by kernel_rfl) rfl rfl ?_
  intro K hK
  go_simp
  refine hK _ _ ⟨?_, fun hS => ?_⟩
  · first | exact hK3.drew | exact hS.below (by assumption) | exact hS.alloc _ | exact hS.app hownA hg5 (by omega) (by have := hS.sz; omega) (by decide) (by decide)
  try simp only [Act.put, List.setIfInBounds_toArray, List.set_cons_zero, List.set_cons_succ]
  refine region_op (i := 8) (oi := ⟨(some 27), (Op.call { callee := (Callee.builtin Builtin.append), args := #[(Operand.tmp 19), (Operand.tmp 26)], argTypes := #[43, 43] }), 43, _, _, none⟩) #[true, true, true, true, true, true, true, true, true, false] rfl (by kernel_rfl) rfl rfl ?_
  intro K hK
  have hownA := hownb.below ((Below.refl _ _).alloc (Nat.le_refl _) (.cells (List.map str [Lib.itoa size, hexN 8 addr.toNat]).toArray 9)); refine wp_app _ _ rfl (w.heap.size + 1) v3 _ [Lib.itoa size, hexN 8 addr.toNat] _ 2 rfl rfl rfl hownA (heap_alloc_new _ _) (by simp) (by have := hS.sz; omega) ?_; intro v5 w5 hown5 hg5; simp only [List.cons_append, List.nil_append] at hown5
  refine hK _ _ ⟨?_, fun hS => ?_⟩
  · first | exact hK3.drew | exact hS.below (by assumption) | exact hS.alloc _ | exact hS.app hownA hg5 (by omega) (by have := hS.sz; omega) (by decide) (by decide)
  try simp only [Act.put, List.setIfInBounds_toArray, List.set_cons_zero, List.set_cons_succ]
  refine region_take (i := 9) (oi := ⟨(some 4), (Op.assign (Operand.tmp 27)), 43, _, _, none⟩) (v := ?_) #[true, true, true, true, true, true, true, true, true, true] rfl (by kernel_rfl) (by kernel_rfl) (by kernel_rfl) (fun _ _ _ h => h) hS ?_ rfl ?_
  rotate_left
  · refine Or.inl ⟨rfl, fun W hW => ?_⟩
    dsimp only at hW
    have hr := hW.r1
    have c1 := rowc hr 1
    have c2 := rowc hr 2
    simp only [List.getElem?_cons_zero, List.getElem?_cons_succ] at c1 c2
    go_simp
    try rfl
  try simp only [Act.put, List.setIfInBounds_toArray, List.set_cons_zero, List.set_cons_succ]
  refine wpAnyH_done (by kernel_rfl) ?_ _
  skip
  have hrow5 := hS.r1
  have hB5' := hS.low
  have hG5 := hG.below hB5'
  have hs5' : w.heap.size < w5.heap.size := by have := hS.sz; omega
  clear hS hGa hGb howna hownb hownA hK3 hB3' hG3 hs3' hrow3 hown3 hba hbb hg5 hc3_0 hc3_1 hc3_3 hc3_4 hc3_5
  have hc5 := rowc hrow5
  have hc5_0 := hc5 0
  have hc5_3 := hc5 3
  have hc5_4 := hc5 4
  have hc5_5 := hc5 5
  simp only [List.getElem?_cons_zero, List.getElem?_cons_succ] at hc5_0 hc5_3 hc5_4 hc5_5
  clear hc5
  go_wp2_with (first | (go_at_call 55; (with_reducible refine (join55 w5 (w.heap.size + 1) v5 _ hown5 (by simp) hlen'.out).mono ?_); rintro e w19 ⟨rfl, hb19⟩))
  go_ret2
  exact ⟨rfl, hB5'.trans (hb19.mono hB5'.size)⟩
set_option maxRecDepth 100000 in
set_option maxHeartbeats 2000000 in
theorem line_1p (size addr : Int) (w : World) (hG : Glob w) (hcr : Hid (insRight ⟨1, size, addr, true, 0, 0, ⟨0, 0, 0, 0, ⟨false, 0, 0, 0, false, false, 0, false⟩⟩⟩ = true)) (hfit : Ins.Fit ⟨1, size, addr, true, 0, 0, ⟨0, 0, 0, 0, ⟨false, 0, 0, 0, false, false, 0, false⟩⟩⟩) (hsz0 : 0 < size) (hsz1 : size ≤ 4) (had0 : 0 ≤ addr) (had1 : addr < 4294967296) (hlen : (Lib.join [[108, 111, 97, 100], Lib.itoa size, hexN 8 addr.toNat, [43]] [32]).length ≤ 140737488355328) :
    Calls Tryz.prog 22 #[.agg #[.int .i64 1, .int .i64 size, .int .u32 addr, .bool true, .int .u32 0, .int .i64 0, .int .i64 0, .int .i64 0, .int .i64 0, .int .i64 0, .bool false, .int .i64 0, .int .u32 0, .int .u32 0, .bool false, .bool false, .int .i64 0, .bool false]] w fun e w' => e = .returned (.tuple #[.string ⟨(Lib.join [[108, 111, 97, 100], Lib.itoa size, hexN 8 addr.toNat, [43]] [32]).toArray⟩, .int .i64 0]) ∧ Below w.heap.size w w' := by
  have hcall := fun W => instr_any ⟨1, size, addr, true, 0, 0, ⟨0, 0, 0, 0, ⟨false, 0, 0, 0, false, false, 0, false⟩⟩⟩ hfit W
  rw [hcr.out] at hcall
  clear hcr hfit
  have hlen' := Lib.hid hlen
  clear hlen
  go_enter Tryz.func22, Tryz.ntmps22
  go_wp2_with (first | ((with_reducible refine wpl_load 33 _ rfl ?_ w.heap.size 0 ?_ _ _ (CellsAt.new _ _ _) Tryz.underlying33 rfl (by kernel_rfl) ?_); (· rfl); (· rfl)) | (go_at_call 15; (refine (hcall _).mono ?_); rintro e w1 ⟨rfl, hb1⟩; have hrow1 := (hb1.block w.heap.size (by simp)).trans (heap_alloc_new w _); have hs1 := hb1.size; simp at hs1))
  have hB1 : Below w.heap.size w w1 := ((Below.refl _ _).alloc (Nat.le_refl _) _).trans (hb1.mono (by simp))
  have hc10 := rowc hrow1 0
  simp only [List.getElem?_cons_zero] at hc10
  clear hcall
  refine region_start (S := (fun W => Below w1.heap.size w1 W)) 7 rfl #[false, false, false, false, false, false, false] rfl (by kernel_rfl) ?_
  refine region_s ?_ ?_
  · (show Below _ _ _; repeat (first | exact Below.refl _ _ | assumption | refine Below.drew ?_ | refine Below.alloc ?_ (by first | omega | (simp; done) | (simp; omega) | (simp [World.setCell]; omega)) _ | refine Below.setCell ?_ (by first | omega | (simp; done) | (simp; omega) | (simp [World.setCell]; omega)) _ | refine below_setRow ?_ (by first | omega | (simp; done) | (simp; omega) | (simp [World.setCell]; omega)) _ | (refine Below.trans ?_ (Below.mono (by assumption) (by first | omega | (simp; done) | (simp; omega) | (simp [World.setCell]; omega))))))
  intro hS
  refine region_take (i := 1) (oi := ⟨(some 11), (Op.fieldAddr 33 (Operand.tmp 1) 0), 0, _, _, none⟩) (v := ?_) #[false, true, false, false, false, false, false] rfl (by kernel_rfl) (by kernel_rfl) (by kernel_rfl) (fun _ _ _ h => h) hS ?_ rfl ?_
  rotate_left
  · refine Or.inl ⟨rfl, fun W hW => ?_⟩
    dsimp only at hW
    have hx0 := (hW.cell (p := ⟨w.heap.size, 0, none⟩) (show w.heap.size < _ by omega)).trans hc10
    go_simp
    try rfl
  try simp only [Act.put, List.setIfInBounds_toArray, List.set_cons_zero, List.set_cons_succ]
  refine region_take (i := 2) (oi := ⟨(some 12), (Op.load 23 (Operand.tmp 11)), 23, _, _, none⟩) (v := ?_) #[false, true, true, false, false, false, false] rfl (by kernel_rfl) (by kernel_rfl) (by kernel_rfl) (fun _ _ _ h => h) hS ?_ rfl ?_
  rotate_left
  · refine Or.inl ⟨rfl, fun W hW => ?_⟩
    dsimp only at hW
    have hx0 := (hW.cell (p := ⟨w.heap.size, 0, none⟩) (show w.heap.size < _ by omega)).trans hc10
    go_simp
    try rfl
  try simp only [Act.put, List.setIfInBounds_toArray, List.set_cons_zero, List.set_cons_succ]
  refine region_op (i := 0) (oi := ⟨(some 10), (Op.call { callee := (Callee.value (Operand.func 45)), args := #[], argTypes := #[] }), 85, _, _, none⟩) #[true, true, true, false, false, false, false] rfl (by kernel_rfl) rfl rfl ?_
  intro K hK
  go_simp; refine (mapKinds_any _).mono ?_; rintro e w2 ⟨rfl, rfl⟩
  refine hK _ _ ⟨?_, fun hS => ?_⟩
  · (show Below _ _ _; repeat (first | exact Below.refl _ _ | assumption | refine Below.drew ?_ | refine Below.alloc ?_ (by first | omega | (simp; done) | (simp; omega) | (simp [World.setCell]; omega)) _ | refine Below.setCell ?_ (by first | omega | (simp; done) | (simp; omega) | (simp [World.setCell]; omega)) _ | refine below_setRow ?_ (by first | omega | (simp; done) | (simp; omega) | (simp [World.setCell]; omega)) _ | (refine Below.trans ?_ (Below.mono (by assumption) (by first | omega | (simp; done) | (simp; omega) | (simp [World.setCell]; omega))))))
  try simp only [Act.put, List.setIfInBounds_toArray, List.set_cons_zero, List.set_cons_succ]
  refine region_op (i := 3) (oi := ⟨(some 13), (Op.lookup 85 (Operand.tmp 10) (Operand.tmp 12) false), 83, _, _, none⟩) #[true, true, true, true, false, false, false] rfl (by kernel_rfl) rfl rfl ?_
  intro K hK
  refine wp_lookK1 _ _ 1 (kindV [108, 111, 97, 100] 105) 0 _ rfl rfl rfl rfl ?_ ?_; (· ((try (simp only [alloc_drew, heap_drew])); first | exact heap_alloc_new _ _ | exact hp1 _ _ _ | exact hp2 _ _ _ _ | exact hp3 _ _ _ _ _ | exact hq1 _ _ _ | exact hq2 _ _ _ _ | exact hq3 _ _ _ _ _ | exact hr2 _ _ _ _ | exact hr3 _ _ _ _ _ | (simp; done)))
  refine hK _ _ ⟨?_, fun hS => ?_⟩
  · (show Below _ _ _; repeat (first | exact Below.refl _ _ | assumption | refine Below.drew ?_ | refine Below.alloc ?_ (by first | omega | (simp; done) | (simp; omega) | (simp [World.setCell]; omega)) _ | refine Below.setCell ?_ (by first | omega | (simp; done) | (simp; omega) | (simp [World.setCell]; omega)) _ | refine below_setRow ?_ (by first | omega | (simp; done) | (simp; omega) | (simp [World.setCell]; omega)) _ | (refine Below.trans ?_ (Below.mono (by assumption) (by first | omega | (simp; done) | (simp; omega) | (simp [World.setCell]; omega))))))
  try simp only [Act.put, List.setIfInBounds_toArray, List.set_cons_zero, List.set_cons_succ]
  refine region_take (i := 4) (oi := ⟨(some 14), (Op.field 83 (Operand.tmp 13) 0), 9, _, _, none⟩) (v := ?_) #[true, true, true, true, true, false, false] rfl (by kernel_rfl) (by kernel_rfl) (by kernel_rfl) (fun _ _ _ h => h) hS ?_ rfl ?_
  rotate_left
  · refine Or.inl ⟨rfl, fun W hW => ?_⟩
    dsimp only at hW
    have hx0 := (hW.cell (p := ⟨w.heap.size, 0, none⟩) (show w.heap.size < _ by omega)).trans hc10
    go_simp
    try rfl
  try simp only [Act.put, List.setIfInBounds_toArray, List.set_cons_zero, List.set_cons_succ]
  refine region_op (i := 5) (oi := ⟨(some 15), (Op.buildSlice 43 1 #[(0, (Operand.tmp 14))]), 43, _, _, none⟩) #[true, true, true, true, true, true, false] rfl (by kernel_rfl) rfl rfl ?_
  intro K hK
  go_simp
  refine hK _ _ ⟨?_, fun hS => ?_⟩
  · (show Below _ _ _; repeat (first | exact Below.refl _ _ | assumption | refine Below.drew ?_ | refine Below.alloc ?_ (by first | omega | (simp; done) | (simp; omega) | (simp [World.setCell]; omega)) _ | refine Below.setCell ?_ (by first | omega | (simp; done) | (simp; omega) | (simp [World.setCell]; omega)) _ | refine below_setRow ?_ (by first | omega | (simp; done) | (simp; omega) | (simp [World.setCell]; omega)) _ | (refine Below.trans ?_ (Below.mono (by assumption) (by first | omega | (simp; done) | (simp; omega) | (simp [World.setCell]; omega))))))
  try simp only [Act.put, List.setIfInBounds_toArray, List.set_cons_zero, List.set_cons_succ]
  refine region_take (i := 6) (oi := ⟨(some 4), (Op.assign (Operand.tmp 15)), 43, _, _, none⟩) (v := ?_) #[true, true, true, true, true, true, true] rfl (by kernel_rfl) (by kernel_rfl) (by kernel_rfl) (fun _ _ _ h => h) hS ?_ rfl ?_
  rotate_left
  · refine Or.inl ⟨rfl, fun W hW => ?_⟩
    dsimp only at hW
    have hx0 := (hW.cell (p := ⟨w.heap.size, 0, none⟩) (show w.heap.size < _ by omega)).trans hc10
    go_simp
    try rfl
  try simp only [Act.put, List.setIfInBounds_toArray, List.set_cons_zero, List.set_cons_succ]
  refine anyH_forget (F := (fun W => Below w1.heap.size w1 W ∧ Own W (w.heap.size + 1) (.slice (some ⟨w1.heap.size + 1, 0, none⟩) 1 1) [[108, 111, 97, 100]])) ⟨hS, Own.at (by ((try (simp only [alloc_drew, heap_drew])); first | exact heap_alloc_new _ _ | exact hp1 _ _ _ | exact hp2 _ _ _ _ | exact hp3 _ _ _ _ _ | exact hq1 _ _ _ | exact hq2 _ _ _ _ | exact hq3 _ _ _ _ _ | exact hr2 _ _ _ _ | exact hr3 _ _ _ _ _ | (simp; done))) rfl (by omega) (by omega)⟩ ?_
  rintro w3 ⟨hB3, hown3⟩
  refine wpAnyH_done (by kernel_rfl) ?_ _
  skip
  have hrow3 := (hB3.block w.heap.size (by omega)).trans hrow1
  have hB3' := hB1.trans (hB3.mono (by omega))
  have hs3 := hB3.size
  have hs3' : w.heap.size < w3.heap.size := by omega
  have hG3 := hG.below hB3'
  clear hS hc10 hb1 hB3 hs3 hs1 hrow1 hB1
  generalize hv3 : Value.slice (some ⟨w1.heap.size + 1, 0, none⟩) 1 1 = v3 at hown3 ⊢
  clear hv3
  have hc3 := rowc hrow3
  have hc3_0 := hc3 0
  have hc3_1 := hc3 1
  have hc3_3 := hc3 3
  have hc3_4 := hc3 4
  have hc3_5 := hc3 5
  simp only [List.getElem?_cons_zero, List.getElem?_cons_succ] at hc3_0 hc3_1 hc3_3 hc3_4 hc3_5
  clear hc3
  go_wp2_with fail
  have hK3 : Kp w w.heap.size #[.int .i64 1, .int .i64 size, .int .u32 addr, .bool true, .int .u32 0, .int .i64 0, .int .i64 0, .int .i64 0, .int .i64 0, .int .i64 0, .bool false, .int .i64 0, .int .u32 0, .int .u32 0, .bool false, .bool false, .int .i64 0, .bool false] 33 w.heap.size #[.int .i64 1, .int .i64 size, .int .u32 addr, .bool true, .int .u32 0, .int .i64 0, .int .i64 0, .int .i64 0, .int .i64 0, .int .i64 0, .bool false, .int .i64 0, .int .u32 0, .int .u32 0, .bool false, .bool false, .int .i64 0, .bool false] 33 w3.heap.size w3 := ⟨hB3', hrow3, hrow3, Nat.le_refl _⟩
  refine region_start (S := (fun W => Kp w w.heap.size #[.int .i64 1, .int .i64 size, .int .u32 addr, .bool true, .int .u32 0, .int .i64 0, .int .i64 0, .int .i64 0, .int .i64 0, .int .i64 0, .bool false, .int .i64 0, .int .u32 0, .int .u32 0, .bool false, .bool false, .int .i64 0, .bool false] 33 w.heap.size #[.int .i64 1, .int .i64 size, .int .u32 addr, .bool true, .int .u32 0, .int .i64 0, .int .i64 0, .int .i64 0, .int .i64 0, .int .i64 0, .bool false, .int .i64 0, .int .u32 0, .int .u32 0, .bool false, .bool false, .int .i64 0, .bool false] 33 w3.heap.size W)) 10 rfl #[false, false, false, false, false, false, false, false, false, false] rfl (by kernel_rfl) ?_
  refine region_s ?_ ?_
  · first | exact hK3.drew | exact hS.below (by assumption) | exact hS.alloc _ | exact hS.app hownA hg5 (by omega) (by have := hS.sz; omega) (by decide) (by decide)
  intro hS
  refine region_take (i := 0) (oi := ⟨(some 19), (Op.move (Operand.tmp 4)), 43, _, _, none⟩) (v := ?_) #[true, false, false, false, false, false, false, false, false, false] rfl (by kernel_rfl) (by kernel_rfl) (by kernel_rfl) (fun _ _ _ h => h) hS ?_ rfl ?_
  rotate_left
  · refine Or.inl ⟨rfl, fun W hW => ?_⟩
    dsimp only at hW
    have hr := hW.r1
    have c1 := rowc hr 1
    have c2 := rowc hr 2
    simp only [List.getElem?_cons_zero, List.getElem?_cons_succ] at c1 c2
    go_simp
    try rfl
  try simp only [Act.put, List.setIfInBounds_toArray, List.set_cons_zero, List.set_cons_succ]
  refine region_take (i := 1) (oi := ⟨(some 20), (Op.fieldAddr 33 (Operand.tmp 1) 1), 0, _, _, none⟩) (v := ?_) #[true, true, false, false, false, false, false, false, false, false] rfl (by kernel_rfl) (by kernel_rfl) (by kernel_rfl) (fun _ _ _ h => h) hS ?_ rfl ?_
  rotate_left
  · refine Or.inl ⟨rfl, fun W hW => ?_⟩
    dsimp only at hW
    have hr := hW.r1
    have c1 := rowc hr 1
    have c2 := rowc hr 2
    simp only [List.getElem?_cons_zero, List.getElem?_cons_succ] at c1 c2
    go_simp
    try rfl
  try simp only [Act.put, List.setIfInBounds_toArray, List.set_cons_zero, List.set_cons_succ]
  refine region_take (i := 2) (oi := ⟨(some 21), (Op.load 3 (Operand.tmp 20)), 3, _, _, none⟩) (v := ?_) #[true, true, true, false, false, false, false, false, false, false] rfl (by kernel_rfl) (by kernel_rfl) (by kernel_rfl) (fun _ _ _ h => h) hS ?_ rfl ?_
  rotate_left
  · refine Or.inl ⟨rfl, fun W hW => ?_⟩
    dsimp only at hW
    have hr := hW.r1
    have c1 := rowc hr 1
    have c2 := rowc hr 2
    simp only [List.getElem?_cons_zero, List.getElem?_cons_succ] at c1 c2
    go_simp
    try rfl
  try simp only [Act.put, List.setIfInBounds_toArray, List.set_cons_zero, List.set_cons_succ]
  refine region_take (i := 4) (oi := ⟨(some 23), (Op.fieldAddr 33 (Operand.tmp 1) 2), 0, _, _, none⟩) (v := ?_) #[true, true, true, false, true, false, false, false, false, false] rfl (by kernel_rfl) (by kernel_rfl) (by kernel_rfl) (fun _ _ _ h => h) hS ?_ rfl ?_
  rotate_left
  · refine Or.inl ⟨rfl, fun W hW => ?_⟩
    dsimp only at hW
    have hr := hW.r1
    have c1 := rowc hr 1
    have c2 := rowc hr 2
    simp only [List.getElem?_cons_zero, List.getElem?_cons_succ] at c1 c2
    go_simp
    try rfl
  try simp only [Act.put, List.setIfInBounds_toArray, List.set_cons_zero, List.set_cons_succ]
  refine region_take (i := 5) (oi := ⟨(some 24), (Op.load 24 (Operand.tmp 23)), 24, _, _, none⟩) (v := ?_) #[true, true, true, false, true, true, false, false, false, false] rfl (by kernel_rfl) (by kernel_rfl) (by kernel_rfl) (fun _ _ _ h => h) hS ?_ rfl ?_
  rotate_left
  · refine Or.inl ⟨rfl, fun W hW => ?_⟩
    dsimp only at hW
    have hr := hW.r1
    have c1 := rowc hr 1
    have c2 := rowc hr 2
    simp only [List.getElem?_cons_zero, List.getElem?_cons_succ] at c1 c2
    go_simp
    try rfl
  try simp only [Act.put, List.setIfInBounds_toArray, List.set_cons_zero, List.set_cons_succ]
  refine region_op (i := 3) (oi := ⟨(some 22), (Op.call { callee := (Callee.value (Operand.func 59)), args := #[(Operand.tmp 21)], argTypes := #[3] }), 9, _, _, none⟩) #[true, true, true, true, true, true, false, false, false, false] rfl (by kernel_rfl) rfl rfl ?_
  intro K hK
  go_simp; refine (itoa_any size (by omega) (by omega) _ hG3.drew).mono ?_; rintro e wa ⟨rfl, hba⟩; have hGa := hG3.drew.below hba; have howna := (show Own w3.drew (w.heap.size + 1) v3 _ from hown3).below hba
  refine hK _ _ ⟨?_, fun hS => ?_⟩
  · first | exact hK3.drew | exact hS.below (by assumption) | exact hS.alloc _ | exact hS.app hownA hg5 (by omega) (by have := hS.sz; omega) (by decide) (by decide)
  try simp only [Act.put, List.setIfInBounds_toArray, List.set_cons_zero, List.set_cons_succ]
  refine region_op (i := 6) (oi := ⟨(some 25), (Op.call { callee := (Callee.value (Operand.func 60)), args := #[(Operand.tmp 24)], argTypes := #[24] }), 9, _, _, none⟩) #[true, true, true, true, true, true, true, false, false, false] rfl (by kernel_rfl) rfl rfl ?_
  intro K hK
  go_simp; refine (hex60S addr had0 had1 _ hGa).mono ?_; rintro e wb ⟨rfl, hbb⟩; have hGb := hGa.below hbb; have hownb := howna.below hbb
  refine hK _ _ ⟨?_, fun hS => ?_⟩
  · first | exact hK3.drew | exact hS.below (by assumption) | exact hS.alloc _ | exact hS.app hownA hg5 (by omega) (by have := hS.sz; omega) (by decide) (by decide)
  try simp only [Act.put, List.setIfInBounds_toArray, List.set_cons_zero, List.set_cons_succ]
  refine region_op (i := 7) (oi := ⟨(some 26), (Op.buildSlice 43 2 #[(0, (Operand.tmp 22)), (1, (Operand.tmp 25))]), 43, _, _, none⟩) #[true, true, true, true, true, true, true, true, false, false] rfl (by kernel_rfl) rfl rfl ?_
  intro K hK
  go_simp
  refine hK _ _ ⟨?_, fun hS => ?_⟩
  · first | exact hK3.drew | exact hS.below (by assumption) | exact hS.alloc _ | exact hS.app hownA hg5 (by omega) (by have := hS.sz; omega) (by decide) (by decide)
  try simp only [Act.put, List.setIfInBounds_toArray, List.set_cons_zero, List.set_cons_succ]
  refine region_op (i := 8) (oi := ⟨(some 27), (Op.call { callee := (Callee.builtin Builtin.append), args := #[(Operand.tmp 19), (Operand.tmp 26)], argTypes := #[43, 43] }), 43, _, _, none⟩) #[true, true, true, true, true, true, true, true, true, false] rfl (by kernel_rfl) rfl rfl ?_
  intro K hK
  have hownA := hownb.below ((Below.refl _ _).alloc (Nat.le_refl _) (.cells (List.map str [Lib.itoa size, hexN 8 addr.toNat]).toArray 9)); refine wp_app _ _ rfl (w.heap.size + 1) v3 _ [Lib.itoa size, hexN 8 addr.toNat] _ 2 rfl rfl rfl hownA (heap_alloc_new _ _) (by simp) (by have := hS.sz; omega) ?_; intro v5 w5 hown5 hg5; simp only [List.cons_append, List.nil_append] at hown5
  refine hK _ _ ⟨?_, fun hS => ?_⟩
  · first | exact hK3.drew | exact hS.below (by assumption) | exact hS.alloc _ | exact hS.app hownA hg5 (by omega) (by have := hS.sz; omega) (by decide) (by decide)
  try simp only [Act.put, List.setIfInBounds_toArray, List.set_cons_zero, List.set_cons_succ]
  refine region_take (i := 9) (oi := ⟨(some 4), (Op.assign (Operand.tmp 27)), 43, _, _, none⟩) (v := ?_) #[true, true, true, true, true, true, true, true, true, true] rfl (by kernel_rfl) (by kernel_rfl) (by kernel_rfl) (fun _ _ _ h => h) hS ?_ rfl ?_
  rotate_left
  · refine Or.inl ⟨rfl, fun W hW => ?_⟩
    dsimp only at hW
    have hr := hW.r1
    have c1 := rowc hr 1
    have c2 := rowc hr 2
    simp only [List.getElem?_cons_zero, List.getElem?_cons_succ] at c1 c2
    go_simp
    try rfl
  try simp only [Act.put, List.setIfInBounds_toArray, List.set_cons_zero, List.set_cons_succ]
  refine wpAnyH_done (by kernel_rfl) ?_ _
  skip
  have hrow5 := hS.r1
  have hB5' := hS.low
  have hG5 := hG.below hB5'
  have hs5' : w.heap.size < w5.heap.size := by have := hS.sz; omega
  clear hS hGa hGb howna hownb hownA hK3 hB3' hG3 hs3' hrow3 hown3 hba hbb hg5 hc3_0 hc3_1 hc3_3 hc3_4 hc3_5
  have hc5 := rowc hrow5
  have hc5_0 := hc5 0
  have hc5_3 := hc5 3
  have hc5_4 := hc5 4
  have hc5_5 := hc5 5
  simp only [List.getElem?_cons_zero, List.getElem?_cons_succ] at hc5_0 hc5_3 hc5_4 hc5_5
  clear hc5
  go_wp2_with (first | (at_builtin; have hownq6 := (hown5).below ((Below.refl _ _).alloc (Nat.le_refl _) (.cells #[str ([43])] 9)); have hrowq6 := (Below.heap_alloc w5 (.cells #[str ([43])] 9) _ (heap_lt (hrow5))).trans (hrow5); refine wpl_app rfl (.tmp 30) (.tmp 31) rfl (w.heap.size + 1) v5 _ [[43]] (w5).heap.size 1 rfl rfl rfl hownq6 (heap_alloc_new _ _) (by simp) (by have := heap_lt (hrow5); simp; omega) ?_; intro v6 w6 hown6 hg6; simp only [List.cons_append, List.nil_append] at hown6; have hrow6 := Own.keep hownq6 hg6 hrowq6 (by decide); have hB6' : Below w.heap.size w w6 := (Below.alloc hB5' (by have := heap_lt (hrow5); omega) (.cells #[str ([43])] 9)).trans ((Own.grown hownq6 hg6 (by have := heap_lt (hrow5); simp; omega)).mono (by omega)); have hG6 := hG.below hB6'; have hc6 := rowc hrow6; have hc6_0 := hc6 0; have hc6_4 := hc6 4; have hc6_5 := hc6 5; simp only [List.getElem?_cons_zero, List.getElem?_cons_succ] at hc6_0 hc6_4 hc6_5; clear hc6) | (go_at_call 55; (with_reducible refine (join55 w6 (w.heap.size + 1) v6 _ hown6 (by simp) hlen'.out).mono ?_); rintro e w19 ⟨rfl, hb19⟩))
  go_ret2
  exact ⟨rfl, hB6'.trans (hb19.mono hB6'.size)⟩
set_option maxRecDepth 100000 in
set_option maxHeartbeats 2000000 in
theorem line_2 (size addr data : Int) (w : World) (hG : Glob w) (hcr : Hid (insRight ⟨2, size, addr, false, data, 0, ⟨0, 0, 0, 0, ⟨false, 0, 0, 0, false, false, 0, false⟩⟩⟩ = true)) (hfit : Ins.Fit ⟨2, size, addr, false, data, 0, ⟨0, 0, 0, 0, ⟨false, 0, 0, 0, false, false, 0, false⟩⟩⟩) (hsz0 : 0 < size) (hsz1 : size ≤ 4) (had0 : 0 ≤ addr) (had1 : addr < 4294967296) (hd0 : 0 ≤ data) (hd1 : data < 4294967296) (hlen : (Lib.join [[115, 116, 111, 114, 101], Lib.itoa size, hexN 8 addr.toNat, hexN 8 data.toNat] [32]).length ≤ 140737488355328) :
    Calls Tryz.prog 22 #[.agg #[.int .i64 2, .int .i64 size, .int .u32 addr, .bool false, .int .u32 data, .int .i64 0, .int .i64 0, .int .i64 0, .int .i64 0, .int .i64 0, .bool false, .int .i64 0, .int .u32 0, .int .u32 0, .bool false, .bool false, .int .i64 0, .bool false]] w fun e w' => e = .returned (.tuple #[.string ⟨(Lib.join [[115, 116, 111, 114, 101], Lib.itoa size, hexN 8 addr.toNat, hexN 8 data.toNat] [32]).toArray⟩, .int .i64 0]) ∧ Below w.heap.size w w' := by
  have hcall := fun W => instr_any ⟨2, size, addr, false, data, 0, ⟨0, 0, 0, 0, ⟨false, 0, 0, 0, false, false, 0, false⟩⟩⟩ hfit W
  rw [hcr.out] at hcall
  clear hcr hfit
  have hlen' := Lib.hid hlen
  clear hlen
  go_enter Tryz.func22, Tryz.ntmps22
  go_wp2_with (first | ((with_reducible refine wpl_load 33 _ rfl ?_ w.heap.size 0 ?_ _ _ (CellsAt.new _ _ _) Tryz.underlying33 rfl (by kernel_rfl) ?_); (· rfl); (· rfl)) | (go_at_call 15; (refine (hcall _).mono ?_); rintro e w1 ⟨rfl, hb1⟩; have hrow1 := (hb1.block w.heap.size (by simp)).trans (heap_alloc_new w _); have hs1 := hb1.size; simp at hs1))
  have hB1 : Below w.heap.size w w1 := ((Below.refl _ _).alloc (Nat.le_refl _) _).trans (hb1.mono (by simp))
  have hc10 := rowc hrow1 0
  simp only [List.getElem?_cons_zero] at hc10
  clear hcall
  refine region_start (S := (fun W => Below w1.heap.size w1 W)) 7 rfl #[false, false, false, false, false, false, false] rfl (by kernel_rfl) ?_
  refine region_s ?_ ?_
  · (show Below _ _ _; repeat (first | exact Below.refl _ _ | assumption | refine Below.drew ?_ | refine Below.alloc ?_ (by first | omega | (simp; done) | (simp; omega) | (simp [World.setCell]; omega)) _ | refine Below.setCell ?_ (by first | omega | (simp; done) | (simp; omega) | (simp [World.setCell]; omega)) _ | refine below_setRow ?_ (by first | omega | (simp; done) | (simp; omega) | (simp [World.setCell]; omega)) _ | (refine Below.trans ?_ (Below.mono (by assumption) (by first | omega | (simp; done) | (simp; omega) | (simp [World.setCell]; omega))))))
  intro hS
  refine region_take (i := 1) (oi := ⟨(some 11), (Op.fieldAddr 33 (Operand.tmp 1) 0), 0, _, _, none⟩) (v := ?_) #[false, true, false, false, false, false, false] rfl (by kernel_rfl) (by kernel_rfl) (by kernel_rfl) (fun _ _ _ h => h) hS ?_ rfl ?_
  rotate_left
  · refine Or.inl ⟨rfl, fun W hW => ?_⟩
    dsimp only at hW
    have hx0 := (hW.cell (p := ⟨w.heap.size, 0, none⟩) (show w.heap.size < _ by omega)).trans hc10
    go_simp
    try rfl
  try simp only [Act.put, List.setIfInBounds_toArray, List.set_cons_zero, List.set_cons_succ]
  refine region_take (i := 2) (oi := ⟨(some 12), (Op.load 23 (Operand.tmp 11)), 23, _, _, none⟩) (v := ?_) #[false, true, true, false, false, false, false] rfl (by kernel_rfl) (by kernel_rfl) (by kernel_rfl) (fun _ _ _ h => h) hS ?_ rfl ?_
  rotate_left
  · refine Or.inl ⟨rfl, fun W hW => ?_⟩
    dsimp only at hW
    have hx0 := (hW.cell (p := ⟨w.heap.size, 0, none⟩) (show w.heap.size < _ by omega)).trans hc10
    go_simp
    try rfl
  try simp only [Act.put, List.setIfInBounds_toArray, List.set_cons_zero, List.set_cons_succ]
  refine region_op (i := 0) (oi := ⟨(some 10), (Op.call { callee := (Callee.value (Operand.func 45)), args := #[], argTypes := #[] }), 85, _, _, none⟩) #[true, true, true, false, false, false, false] rfl (by kernel_rfl) rfl rfl ?_
  intro K hK
  go_simp; refine (mapKinds_any _).mono ?_; rintro e w2 ⟨rfl, rfl⟩
  refine hK _ _ ⟨?_, fun hS => ?_⟩
  · (show Below _ _ _; repeat (first | exact Below.refl _ _ | assumption | refine Below.drew ?_ | refine Below.alloc ?_ (by first | omega | (simp; done) | (simp; omega) | (simp [World.setCell]; omega)) _ | refine Below.setCell ?_ (by first | omega | (simp; done) | (simp; omega) | (simp [World.setCell]; omega)) _ | refine below_setRow ?_ (by first | omega | (simp; done) | (simp; omega) | (simp [World.setCell]; omega)) _ | (refine Below.trans ?_ (Below.mono (by assumption) (by first | omega | (simp; done) | (simp; omega) | (simp [World.setCell]; omega))))))
  try simp only [Act.put, List.setIfInBounds_toArray, List.set_cons_zero, List.set_cons_succ]
  refine region_op (i := 3) (oi := ⟨(some 13), (Op.lookup 85 (Operand.tmp 10) (Operand.tmp 12) false), 83, _, _, none⟩) #[true, true, true, true, false, false, false] rfl (by kernel_rfl) rfl rfl ?_
  intro K hK
  refine wp_lookK1 _ _ 2 (kindV [115, 116, 111, 114, 101] 106) 1 _ rfl rfl rfl rfl ?_ ?_; (· ((try (simp only [alloc_drew, heap_drew])); first | exact heap_alloc_new _ _ | exact hp1 _ _ _ | exact hp2 _ _ _ _ | exact hp3 _ _ _ _ _ | exact hq1 _ _ _ | exact hq2 _ _ _ _ | exact hq3 _ _ _ _ _ | exact hr2 _ _ _ _ | exact hr3 _ _ _ _ _ | (simp; done)))
  refine hK _ _ ⟨?_, fun hS => ?_⟩
  · (show Below _ _ _; repeat (first | exact Below.refl _ _ | assumption | refine Below.drew ?_ | refine Below.alloc ?_ (by first | omega | (simp; done) | (simp; omega) | (simp [World.setCell]; omega)) _ | refine Below.setCell ?_ (by first | omega | (simp; done) | (simp; omega) | (simp [World.setCell]; omega)) _ | refine below_setRow ?_ (by first | omega | (simp; done) | (simp; omega) | (simp [World.setCell]; omega)) _ | (refine Below.trans ?_ (Below.mono (by assumption) (by first | omega | (simp; done) | (simp; omega) | (simp [World.setCell]; omega))))))
  try simp only [Act.put, List.setIfInBounds_toArray, List.set_cons_zero, List.set_cons_succ]
  refine region_take (i := 4) (oi := ⟨(some 14), (Op.field 83 (Operand.tmp 13) 0), 9, _, _, none⟩) (v := ?_) #[true, true, true, true, true, false, false] rfl (by kernel_rfl) (by kernel_rfl) (by kernel_rfl) (fun _ _ _ h => h) hS ?_ rfl ?_
  rotate_left
  · refine Or.inl ⟨rfl, fun W hW => ?_⟩
    dsimp only at hW
    have hx0 := (hW.cell (p := ⟨w.heap.size, 0, none⟩) (show w.heap.size < _ by omega)).trans hc10
    go_simp
    try rfl
  try simp only [Act.put, List.setIfInBounds_toArray, List.set_cons_zero, List.set_cons_succ]
  refine region_op (i := 5) (oi := ⟨(some 15), (Op.buildSlice 43 1 #[(0, (Operand.tmp 14))]), 43, _, _, none⟩) #[true, true, true, true, true, true, false] rfl (by kernel_rfl) rfl rfl ?_
  intro K hK
  go_simp
  refine hK _ _ ⟨?_, fun hS => ?_⟩
  · (show Below _ _ _; repeat (first | exact Below.refl _ _ | assumption | refine Below.drew ?_ | refine Below.alloc ?_ (by first | omega | (simp; done) | (simp; omega) | (simp [World.setCell]; omega)) _ | refine Below.setCell ?_ (by first | omega | (simp; done) | (simp; omega) | (simp [World.setCell]; omega)) _ | refine below_setRow ?_ (by first | omega | (simp; done) | (simp; omega) | (simp [World.setCell]; omega)) _ | (refine Below.trans ?_ (Below.mono (by assumption) (by first | omega | (simp; done) | (simp; omega) | (simp [World.setCell]; omega))))))
  try simp only [Act.put, List.setIfInBounds_toArray, List.set_cons_zero, List.set_cons_succ]
  refine region_take (i := 6) (oi := ⟨(some 4), (Op.assign (Operand.tmp 15)), 43, _, _, none⟩) (v := ?_) #[true, true, true, true, true, true, true] rfl (by kernel_rfl) (by kernel_rfl) (by kernel_rfl) (fun _ _ _ h => h) hS ?_ rfl ?_
  rotate_left
  · refine Or.inl ⟨rfl, fun W hW => ?_⟩
    dsimp only at hW
    have hx0 := (hW.cell (p := ⟨w.heap.size, 0, none⟩) (show w.heap.size < _ by omega)).trans hc10
    go_simp
    try rfl
  try simp only [Act.put, List.setIfInBounds_toArray, List.set_cons_zero, List.set_cons_succ]
  refine anyH_forget (F := (fun W => Below w1.heap.size w1 W ∧ Own W (w.heap.size + 1) (.slice (some ⟨w1.heap.size + 1, 0, none⟩) 1 1) [[115, 116, 111, 114, 101]])) ⟨hS, Own.at (by ((try (simp only [alloc_drew, heap_drew])); first | exact heap_alloc_new _ _ | exact hp1 _ _ _ | exact hp2 _ _ _ _ | exact hp3 _ _ _ _ _ | exact hq1 _ _ _ | exact hq2 _ _ _ _ | exact hq3 _ _ _ _ _ | exact hr2 _ _ _ _ | exact hr3 _ _ _ _ _ | (simp; done))) rfl (by omega) (by omega)⟩ ?_
  rintro w3 ⟨hB3, hown3⟩
  refine wpAnyH_done (by kernel_rfl) ?_ _
  skip
  have hrow3 := (hB3.block w.heap.size (by omega)).trans hrow1
  have hB3' := hB1.trans (hB3.mono (by omega))
  have hs3 := hB3.size
  have hs3' : w.heap.size < w3.heap.size := by omega
  have hG3 := hG.below hB3'
  clear hS hc10 hb1 hB3 hs3 hs1 hrow1 hB1
  generalize hv3 : Value.slice (some ⟨w1.heap.size + 1, 0, none⟩) 1 1 = v3 at hown3 ⊢
  clear hv3
  have hc3 := rowc hrow3
  have hc3_0 := hc3 0
  have hc3_1 := hc3 1
  have hc3_3 := hc3 3
  have hc3_4 := hc3 4
  have hc3_5 := hc3 5
  simp only [List.getElem?_cons_zero, List.getElem?_cons_succ] at hc3_0 hc3_1 hc3_3 hc3_4 hc3_5
  clear hc3
  go_wp2_with fail
  have hK3 : Kp w w.heap.size #[.int .i64 2, .int .i64 size, .int .u32 addr, .bool false, .int .u32 data, .int .i64 0, .int .i64 0, .int .i64 0, .int .i64 0, .int .i64 0, .bool false, .int .i64 0, .int .u32 0, .int .u32 0, .bool false, .bool false, .int .i64 0, .bool false] 33 w.heap.size #[.int .i64 2, .int .i64 size, .int .u32 addr, .bool false, .int .u32 data, .int .i64 0, .int .i64 0, .int .i64 0, .int .i64 0, .int .i64 0, .bool false, .int .i64 0, .int .u32 0, .int .u32 0, .bool false, .bool false, .int .i64 0, .bool false] 33 w3.heap.size w3 := ⟨hB3', hrow3, hrow3, Nat.le_refl _⟩
  refine region_start (S := (fun W => Kp w w.heap.size #[.int .i64 2, .int .i64 size, .int .u32 addr, .bool false, .int .u32 data, .int .i64 0, .int .i64 0, .int .i64 0, .int .i64 0, .int .i64 0, .bool false, .int .i64 0, .int .u32 0, .int .u32 0, .bool false, .bool false, .int .i64 0, .bool false] 33 w.heap.size #[.int .i64 2, .int .i64 size, .int .u32 addr, .bool false, .int .u32 data, .int .i64 0, .int .i64 0, .int .i64 0, .int .i64 0, .int .i64 0, .bool false, .int .i64 0, .int .u32 0, .int .u32 0, .bool false, .bool false, .int .i64 0, .bool false] 33 w3.heap.size W)) 10 rfl #[false, false, false, false, false, false, false, false, false, false] rfl (by kernel_rfl) ?_
  refine region_s ?_ ?_
  · first | exact hK3.drew | exact hS.below (by assumption) | exact hS.alloc _ | exact hS.app hownA hg5 (by omega) (by have := hS.sz; omega) (by decide) (by decide)
  intro hS
  refine region_take (i := 0) (oi := ⟨(some 19), (Op.move (Operand.tmp 4)), 43, _, _, none⟩) (v := ?_) #[true, false, false, false, false, false, false, false, false, false] rfl (by kernel_rfl) (by kernel_rfl) (by kernel_rfl) (fun _ _ _ h => h) hS ?_ rfl ?_
  rotate_left
  · refine Or.inl ⟨rfl, fun W hW => ?_⟩
    dsimp only at hW
    have hr := hW.r1
    have c1 := rowc hr 1
    have c2 := rowc hr 2
    simp only [List.getElem?_cons_zero, List.getElem?_cons_succ] at c1 c2
    go_simp
    try rfl
  try simp only [Act.put, List.setIfInBounds_toArray, List.set_cons_zero, List.set_cons_succ]
  refine region_take (i := 1) (oi := ⟨(some 20), (Op.fieldAddr 33 (Operand.tmp 1) 1), 0, _, _, none⟩) (v := ?_) #[true, true, false, false, false, false, false, false, false, false] rfl (by kernel_rfl) (by kernel_rfl) (by kernel_rfl) (fun _ _ _ h => h) hS ?_ rfl ?_
  rotate_left
  · refine Or.inl ⟨rfl, fun W hW => ?_⟩
    dsimp only at hW
    have hr := hW.r1
    have c1 := rowc hr 1
    have c2 := rowc hr 2
    simp only [List.getElem?_cons_zero, List.getElem?_cons_succ] at c1 c2
    go_simp
    try rfl
  try simp only [Act.put, List.setIfInBounds_toArray, List.set_cons_zero, List.set_cons_succ]
  refine region_take (i := 2) (oi := ⟨(some 21), (Op.load 3 (Operand.tmp 20)), 3, _, _, none⟩) (v := ?_) #[true, true, true, false, false, false, false, false, false, false] rfl (by kernel_rfl) (by kernel_rfl) (by kernel_rfl) (fun _ _ _ h => h) hS ?_ rfl ?_
  rotate_left
  · refine Or.inl ⟨rfl, fun W hW => ?_⟩
    dsimp only at hW
    have hr := hW.r1
    have c1 := rowc hr 1
    have c2 := rowc hr 2
    simp only [List.getElem?_cons_zero, List.getElem?_cons_succ] at c1 c2
    go_simp
    try rfl
  try simp only [Act.put, List.setIfInBounds_toArray, List.set_cons_zero, List.set_cons_succ]
  refine region_take (i := 4) (oi := ⟨(some 23), (Op.fieldAddr 33 (Operand.tmp 1) 2), 0, _, _, none⟩) (v := ?_) #[true, true, true, false, true, false, false, false, false, false] rfl (by kernel_rfl) (by kernel_rfl) (by kernel_rfl) (fun _ _ _ h => h) hS ?_ rfl ?_
  rotate_left
  · refine Or.inl ⟨rfl, fun W hW => ?_⟩
    dsimp only at hW
    have hr := hW.r1
    have c1 := rowc hr 1
    have c2 := rowc hr 2
    simp only [List.getElem?_cons_zero, List.getElem?_cons_succ] at c1 c2
    go_simp
    try rfl
  try simp only [Act.put, List.setIfInBounds_toArray, List.set_cons_zero, List.set_cons_succ]
  refine region_take (i := 5) (oi := ⟨(some 24), (Op.load 24 (Operand.tmp 23)), 24, _, _, none⟩) (v := ?_) #[true, true, true, false, true, true, false, false, false, false] rfl (by kernel_rfl) (by kernel_rfl) (by kernel_rfl) (fun _ _ _ h => h) hS ?_ rfl ?_
  rotate_left
  · refine Or.inl ⟨rfl, fun W hW => ?_⟩
    dsimp only at hW
    have hr := hW.r1
    have c1 := rowc hr 1
    have c2 := rowc hr 2
    simp only [List.getElem?_cons_zero, List.getElem?_cons_succ] at c1 c2
    go_simp
    try rfl
  try simp only [Act.put, List.setIfInBounds_toArray, List.set_cons_zero, List.set_cons_succ]
  refine region_op (i := 3) (oi := ⟨(some 22), (Op.call { callee := (Callee.value (Operand.func 59)), args := #[(Operand.tmp 21)], argTypes := #[3] }), 9, _, _, none⟩) #[true, true, true, true, true, true, false, false, false, false] rfl (by kernel_rfl) rfl rfl ?_
  intro K hK
  go_simp; refine (itoa_any size (by omega) (by omega) _ hG3.drew).mono ?_; rintro e wa ⟨rfl, hba⟩; have hGa := hG3.drew.below hba; have howna := (show Own w3.drew (w.heap.size + 1) v3 _ from hown3).below hba
  refine hK _ _ ⟨?_, fun hS => ?_⟩
  · first | exact hK3.drew | exact hS.below (by assumption) | exact hS.alloc _ | exact hS.app hownA hg5 (by omega) (by have := hS.sz; omega) (by decide) (by decide)
  try simp only [Act.put, List.setIfInBounds_toArray, List.set_cons_zero, List.set_cons_succ]
  refine region_op (i := 6) (oi := ⟨(some 25), (Op.call { callee := (Callee.value (Operand.func 60)), args := #[(Operand.tmp 24)], argTypes := #[24] }), 9, _, _, none⟩) #[true, true, true, true, true, true, true, false, false, false] rfl (by kernel_rfl) rfl rfl ?_
  intro K hK
  go_simp; refine (hex60S addr had0 had1 _ hGa).mono ?_; rintro e wb ⟨rfl, hbb⟩; have hGb := hGa.below hbb; have hownb := howna.below hbb
  refine hK _ _ ⟨?_, fun hS => ?_⟩
  · first | exact hK3.drew | exact hS.below (by assumption) | exact hS.alloc _ | exact hS.app hownA hg5 (by omega) (by have := hS.sz; omega) (by decide) (by decide)
  try simp only [Act.put, List.setIfInBounds_toArray, List.set_cons_zero, List.set_cons_succ]
  refine region_op (i := 7) (oi := ⟨(some 26), (Op.buildSlice 43 2 #[(0, (Operand.tmp 22)), (1, (Operand.tmp 25))]), 43, _, _, none⟩) #[true, true, true, true, true, true, true, true, false, false] rfl (by kernel_rfl) rfl rfl ?_
  intro K hK
  go_simp
  refine hK _ _ ⟨?_, fun hS => ?_⟩
  · first | exact hK3.drew | exact hS.below (by assumption) | exact hS.alloc _ | exact hS.app hownA hg5 (by omega) (by have := hS.sz; omega) (by decide) (by decide)
  try simp only [Act.put, List.setIfInBounds_toArray, List.set_cons_zero, List.set_cons_succ]
  refine region_op (i := 8) (oi := ⟨(some 27), (Op.call { callee := (Callee.builtin Builtin.append), args := #[(Operand.tmp 19), (Operand.tmp 26)], argTypes := #[43, 43] }), 43, _, _, none⟩) #[true, true, true, true, true, true, true, true, true, false] rfl (by kernel_rfl) rfl rfl ?_
  intro K hK
  have hownA := hownb.below ((Below.refl _ _).alloc (Nat.le_refl _) (.cells (List.map str [Lib.itoa size, hexN 8 addr.toNat]).toArray 9)); refine wp_app _ _ rfl (w.heap.size + 1) v3 _ [Lib.itoa size, hexN 8 addr.toNat] _ 2 rfl rfl rfl hownA (heap_alloc_new _ _) (by simp) (by have := hS.sz; omega) ?_; intro v5 w5 hown5 hg5; simp only [List.cons_append, List.nil_append] at hown5
  refine hK _ _ ⟨?_, fun hS => ?_⟩
  · first | exact hK3.drew | exact hS.below (by assumption) | exact hS.alloc _ | exact hS.app hownA hg5 (by omega) (by have := hS.sz; omega) (by decide) (by decide)
  try simp only [Act.put, List.setIfInBounds_toArray, List.set_cons_zero, List.set_cons_succ]
  refine region_take (i := 9) (oi := ⟨(some 4), (Op.assign (Operand.tmp 27)), 43, _, _, none⟩) (v := ?_) #[true, true, true, true, true, true, true, true, true, true] rfl (by kernel_rfl) (by kernel_rfl) (by kernel_rfl) (fun _ _ _ h => h) hS ?_ rfl ?_
  rotate_left
  · refine Or.inl ⟨rfl, fun W hW => ?_⟩
    dsimp only at hW
    have hr := hW.r1
    have c1 := rowc hr 1
    have c2 := rowc hr 2
    simp only [List.getElem?_cons_zero, List.getElem?_cons_succ] at c1 c2
    go_simp
    try rfl
  try simp only [Act.put, List.setIfInBounds_toArray, List.set_cons_zero, List.set_cons_succ]
  refine wpAnyH_done (by kernel_rfl) ?_ _
  skip
  have hrow5 := hS.r1
  have hB5' := hS.low
  have hG5 := hG.below hB5'
  have hs5' : w.heap.size < w5.heap.size := by have := hS.sz; omega
  clear hS hGa hGb howna hownb hownA hK3 hB3' hG3 hs3' hrow3 hown3 hba hbb hg5 hc3_0 hc3_1 hc3_3 hc3_4 hc3_5
  have hc5 := rowc hrow5
  have hc5_0 := hc5 0
  have hc5_3 := hc5 3
  have hc5_4 := hc5 4
  have hc5_5 := hc5 5
  simp only [List.getElem?_cons_zero, List.getElem?_cons_succ] at hc5_0 hc5_3 hc5_4 hc5_5
  clear hc5
  go_wp2_with (first | (go_at_call 60; (with_reducible refine (hex60S data hd0 hd1 w5 hG5).mono ?_); rintro e wc8 ⟨rfl, hbc8⟩) | (at_builtin; have hownq8 := (hown5.below hbc8).below ((Below.refl _ _).alloc (Nat.le_refl _) (.cells #[str (hexN 8 data.toNat)] 9)); have hrowq8 := (Below.heap_alloc wc8 (.cells #[str (hexN 8 data.toNat)] 9) _ (heap_lt ((hbc8.block w.heap.size (heap_lt hrow5)).trans hrow5))).trans ((hbc8.block w.heap.size (heap_lt hrow5)).trans hrow5); refine wpl_app rfl (.tmp 39) (.tmp 43) rfl (w.heap.size + 1) v5 _ [hexN 8 data.toNat] (wc8).heap.size 1 rfl rfl rfl hownq8 (heap_alloc_new _ _) (by simp) (by have := heap_lt ((hbc8.block w.heap.size (heap_lt hrow5)).trans hrow5); simp; omega) ?_; intro v8 w8 hown8 hg8; simp only [List.cons_append, List.nil_append] at hown8; have hrow8 := Own.keep hownq8 hg8 hrowq8 (by decide); have hB8' : Below w.heap.size w w8 := (Below.alloc (hB5'.trans (hbc8.mono hB5'.size)) (by have := heap_lt ((hbc8.block w.heap.size (heap_lt hrow5)).trans hrow5); omega) (.cells #[str (hexN 8 data.toNat)] 9)).trans ((Own.grown hownq8 hg8 (by have := heap_lt ((hbc8.block w.heap.size (heap_lt hrow5)).trans hrow5); simp; omega)).mono (by omega)); have hG8 := hG.below hB8'; have hc8 := rowc hrow8; have hc8_0 := hc8 0; have hc8_5 := hc8 5; simp only [List.getElem?_cons_zero, List.getElem?_cons_succ] at hc8_0 hc8_5; clear hc8) | (go_at_call 55; (with_reducible refine (join55 w8 (w.heap.size + 1) v8 _ hown8 (by simp) hlen'.out).mono ?_); rintro e w19 ⟨rfl, hb19⟩))
  go_ret2
  exact ⟨rfl, hB8'.trans (hb19.mono hB8'.size)⟩
set_option maxRecDepth 100000 in
set_option maxHeartbeats 2000000 in
theorem line_2p (size addr data : Int) (w : World) (hG : Glob w) (hcr : Hid (insRight ⟨2, size, addr, true, data, 0, ⟨0, 0, 0, 0, ⟨false, 0, 0, 0, false, false, 0, false⟩⟩⟩ = true)) (hfit : Ins.Fit ⟨2, size, addr, true, data, 0, ⟨0, 0, 0, 0, ⟨false, 0, 0, 0, false, false, 0, false⟩⟩⟩) (hsz0 : 0 < size) (hsz1 : size ≤ 4) (had0 : 0 ≤ addr) (had1 : addr < 4294967296) (hd0 : 0 ≤ data) (hd1 : data < 4294967296) (hlen : (Lib.join [[115, 116, 111, 114, 101], Lib.itoa size, hexN 8 addr.toNat, [43], hexN 8 data.toNat] [32]).length ≤ 140737488355328) :
    Calls Tryz.prog 22 #[.agg #[.int .i64 2, .int .i64 size, .int .u32 addr, .bool true, .int .u32 data, .int .i64 0, .int .i64 0, .int .i64 0, .int .i64 0, .int .i64 0, .bool false, .int .i64 0, .int .u32 0, .int .u32 0, .bool false, .bool false, .int .i64 0, .bool false]] w fun e w' => e = .returned (.tuple #[.string ⟨(Lib.join [[115, 116, 111, 114, 101], Lib.itoa size, hexN 8 addr.toNat, [43], hexN 8 data.toNat] [32]).toArray⟩, .int .i64 0]) ∧ Below w.heap.size w w' := by
  have hcall := fun W => instr_any ⟨2, size, addr, true, data, 0, ⟨0, 0, 0, 0, ⟨false, 0, 0, 0, false, false, 0, false⟩⟩⟩ hfit W
  rw [hcr.out] at hcall
  clear hcr hfit
  have hlen' := Lib.hid hlen
  clear hlen
  go_enter Tryz.func22, Tryz.ntmps22
  go_wp2_with (first | ((with_reducible refine wpl_load 33 _ rfl ?_ w.heap.size 0 ?_ _ _ (CellsAt.new _ _ _) Tryz.underlying33 rfl (by kernel_rfl) ?_); (· rfl); (· rfl)) | (go_at_call 15; (refine (hcall _).mono ?_); rintro e w1 ⟨rfl, hb1⟩; have hrow1 := (hb1.block w.heap.size (by simp)).trans (heap_alloc_new w _); have hs1 := hb1.size; simp at hs1))
  have hB1 : Below w.heap.size w w1 := ((Below.refl _ _).alloc (Nat.le_refl _) _).trans (hb1.mono (by simp))
  have hc10 := rowc hrow1 0
  simp only [List.getElem?_cons_zero] at hc10
  clear hcall
  refine region_start (S := (fun W => Below w1.heap.size w1 W)) 7 rfl #[false, false, false, false, false, false, false] rfl (by kernel_rfl) ?_
  refine region_s ?_ ?_
  · (show Below _ _ _; repeat (first | exact Below.refl _ _ | assumption | refine Below.drew ?_ | refine Below.alloc ?_ (by first | omega | (simp; done) | (simp; omega) | (simp [World.setCell]; omega)) _ | refine Below.setCell ?_ (by first | omega | (simp; done) | (simp; omega) | (simp [World.setCell]; omega)) _ | refine below_setRow ?_ (by first | omega | (simp; done) | (simp; omega) | (simp [World.setCell]; omega)) _ | (refine Below.trans ?_ (Below.mono (by assumption) (by first | omega | (simp; done) | (simp; omega) | (simp [World.setCell]; omega))))))
  intro hS
  refine region_take (i := 1) (oi := ⟨(some 11), (Op.fieldAddr 33 (Operand.tmp 1) 0), 0, _, _, none⟩) (v := ?_) #[false, true, false, false, false, false, false] rfl (by kernel_rfl) (by kernel_rfl) (by kernel_rfl) (fun _ _ _ h => h) hS ?_ rfl ?_
  rotate_left
  · refine Or.inl ⟨rfl, fun W hW => ?_⟩
    dsimp only at hW
    have hx0 := (hW.cell (p := ⟨w.heap.size, 0, none⟩) (show w.heap.size < _ by omega)).trans hc10
    go_simp
    try rfl
  try simp only [Act.put, List.setIfInBounds_toArray, List.set_cons_zero, List.set_cons_succ]
  refine region_take (i := 2) (oi := ⟨(some 12), (Op.load 23 (Operand.tmp 11)), 23, _, _, none⟩) (v := ?_) #[false, true, true, false, false, false, false] rfl (by kernel_rfl) (by kernel_rfl) (by kernel_rfl) (fun _ _ _ h => h) hS ?_ rfl ?_
  rotate_left
  · refine Or.inl ⟨rfl, fun W hW => ?_⟩
    dsimp only at hW
    have hx0 := (hW.cell (p := ⟨w.heap.size, 0, none⟩) (show w.heap.size < _ by omega)).trans hc10
    go_simp
    try rfl
  try simp only [Act.put, List.setIfInBounds_toArray, List.set_cons_zero, List.set_cons_succ]
  refine region_op (i := 0) (oi := ⟨(some 10), (Op.call { callee := (Callee.value (Operand.func 45)), args := #[], argTypes := #[] }), 85, _, _, none⟩) #[true, true, true, false, false, false, false] rfl (by kernel_rfl) rfl rfl ?_
  intro K hK
  go_simp; refine (mapKinds_any _).mono ?_; rintro e w2 ⟨rfl, rfl⟩
  refine hK _ _ ⟨?_, fun hS => ?_⟩
  · (show Below _ _ _; repeat (first | exact Below.refl _ _ | assumption | refine Below.drew ?_ | refine Below.alloc ?_ (by first | omega | (simp; done) | (simp; omega) | (simp [World.setCell]; omega)) _ | refine Below.setCell ?_ (by first | omega | (simp; done) | (simp; omega) | (simp [World.setCell]; omega)) _ | refine below_setRow ?_ (by first | omega | (simp; done) | (simp; omega) | (simp [World.setCell]; omega)) _ | (refine Below.trans ?_ (Below.mono (by assumption) (by first | omega | (simp; done) | (simp; omega) | (simp [World.setCell]; omega))))))
  try simp only [Act.put, List.setIfInBounds_toArray, List.set_cons_zero, List.set_cons_succ]
  refine region_op (i := 3) (oi := ⟨(some 13), (Op.lookup 85 (Operand.tmp 10) (Operand.tmp 12) false), 83, _, _, none⟩) #[true, true, true, true, false, false, false] rfl (by kernel_rfl) rfl rfl ?_
  intro K hK
  refine wp_lookK1 _ _ 2 (kindV [115, 116, 111, 114, 101] 106) 1 _ rfl rfl rfl rfl ?_ ?_; (· ((try (simp only [alloc_drew, heap_drew])); first | exact heap_alloc_new _ _ | exact hp1 _ _ _ | exact hp2 _ _ _ _ | exact hp3 _ _ _ _ _ | exact hq1 _ _ _ | exact hq2 _ _ _ _ | exact hq3 _ _ _ _ _ | exact hr2 _ _ _ _ | exact hr3 _ _ _ _ _ | (simp; done)))
  refine hK _ _ ⟨?_, fun hS => ?_⟩
  · (show Below _ _ _; repeat (first | exact Below.refl _ _ | assumption | refine Below.drew ?_ | refine Below.alloc ?_ (by first | omega | (simp; done) | (simp; omega) | (simp [World.setCell]; omega)) _ | refine Below.setCell ?_ (by first | omega | (simp; done) | (simp; omega) | (simp [World.setCell]; omega)) _ | refine below_setRow ?_ (by first | omega | (simp; done) | (simp; omega) | (simp [World.setCell]; omega)) _ | (refine Below.trans ?_ (Below.mono (by assumption) (by first | omega | (simp; done) | (simp; omega) | (simp [World.setCell]; omega))))))
  try simp only [Act.put, List.setIfInBounds_toArray, List.set_cons_zero, List.set_cons_succ]
  refine region_take (i := 4) (oi := ⟨(some 14), (Op.field 83 (Operand.tmp 13) 0), 9, _, _, none⟩) (v := ?_) #[true, true, true, true, true, false, false] rfl (by kernel_rfl) (by kernel_rfl) (by kernel_rfl) (fun _ _ _ h => h) hS ?_ rfl ?_
  rotate_left
  · refine Or.inl ⟨rfl, fun W hW => ?_⟩
    dsimp only at hW
    have hx0 := (hW.cell (p := ⟨w.heap.size, 0, none⟩) (show w.heap.size < _ by omega)).trans hc10
    go_simp
    try rfl
  try simp only [Act.put, List.setIfInBounds_toArray, List.set_cons_zero, List.set_cons_succ]
  refine region_op (i := 5) (oi := ⟨(some 15), (Op.buildSlice 43 1 #[(0, (Operand.tmp 14))]), 43, _, _, none⟩) #[true, true, true, true, true, true, false] rfl (by kernel_rfl) rfl rfl ?_
  intro K hK
  go_simp
  refine hK _ _ ⟨?_, fun hS => ?_⟩
  · (show Below _ _ _; repeat (first | exact Below.refl _ _ | assumption | refine Below.drew ?_ | refine Below.alloc ?_ (by first | omega | (simp; done) | (simp; omega) | (simp [World.setCell]; omega)) _ | refine Below.setCell ?_ (by first | omega | (simp; done) | (simp; omega) | (simp [World.setCell]; omega)) _ | refine below_setRow ?_ (by first | omega | (simp; done) | (simp; omega) | (simp [World.setCell]; omega)) _ | (refine Below.trans ?_ (Below.mono (by assumption) (by first | omega | (simp; done) | (simp; omega) | (simp [World.setCell]; omega))))))
  try simp only [Act.put, List.setIfInBounds_toArray, List.set_cons_zero, List.set_cons_succ]
  refine region_take (i := 6) (oi := ⟨(some 4), (Op.assign (Operand.tmp 15)), 43, _, _, none⟩) (v := ?_) #[true, true, true, true, true, true, true] rfl (by kernel_rfl) (by kernel_rfl) (by kernel_rfl) (fun _ _ _ h => h) hS ?_ rfl ?_
  rotate_left
  · refine Or.inl ⟨rfl, fun W hW => ?_⟩
    dsimp only at hW
    have hx0 := (hW.cell (p := ⟨w.heap.size, 0, none⟩) (show w.heap.size < _ by omega)).trans hc10
    go_simp
    try rfl
  try simp only [Act.put, List.setIfInBounds_toArray, List.set_cons_zero, List.set_cons_succ]
  refine anyH_forget (F := (fun W => Below w1.heap.size w1 W ∧ Own W (w.heap.size + 1) (.slice (some ⟨w1.heap.size + 1, 0, none⟩) 1 1) [[115, 116, 111, 114, 101]])) ⟨hS, Own.at (by ((try (simp only [alloc_drew, heap_drew])); first | exact heap_alloc_new _ _ | exact hp1 _ _ _ | exact hp2 _ _ _ _ | exact hp3 _ _ _ _ _ | exact hq1 _ _ _ | exact hq2 _ _ _ _ | exact hq3 _ _ _ _ _ | exact hr2 _ _ _ _ | exact hr3 _ _ _ _ _ | (simp; done))) rfl (by omega) (by omega)⟩ ?_
  rintro w3 ⟨hB3, hown3⟩
  refine wpAnyH_done (by kernel_rfl) ?_ _
  skip
  have hrow3 := (hB3.block w.heap.size (by omega)).trans hrow1
  have hB3' := hB1.trans (hB3.mono (by omega))
  have hs3 := hB3.size
  have hs3' : w.heap.size < w3.heap.size := by omega
  have hG3 := hG.below hB3'
  clear hS hc10 hb1 hB3 hs3 hs1 hrow1 hB1
  generalize hv3 : Value.slice (some ⟨w1.heap.size + 1, 0, none⟩) 1 1 = v3 at hown3 ⊢
  clear hv3
  have hc3 := rowc hrow3
  have hc3_0 := hc3 0
  have hc3_1 := hc3 1
  have hc3_3 := hc3 3
  have hc3_4 := hc3 4
  have hc3_5 := hc3 5
  simp only [List.getElem?_cons_zero, List.getElem?_cons_succ] at hc3_0 hc3_1 hc3_3 hc3_4 hc3_5
  clear hc3
  go_wp2_with fail
  have hK3 : Kp w w.heap.size #[.int .i64 2, .int .i64 size, .int .u32 addr, .bool true, .int .u32 data, .int .i64 0, .int .i64 0, .int .i64 0, .int .i64 0, .int .i64 0, .bool false, .int .i64 0, .int .u32 0, .int .u32 0, .bool false, .bool false, .int .i64 0, .bool false] 33 w.heap.size #[.int .i64 2, .int .i64 size, .int .u32 addr, .bool true, .int .u32 data, .int .i64 0, .int .i64 0, .int .i64 0, .int .i64 0, .int .i64 0, .bool false, .int .i64 0, .int .u32 0, .int .u32 0, .bool false, .bool false, .int .i64 0, .bool false] 33 w3.heap.size w3 := ⟨hB3', hrow3, hrow3, Nat.le_refl _⟩
  refine region_start (S := (fun W => Kp w w.heap.size #[.int .i64 2, .int .i64 size, .int .u32 addr, .bool true, .int .u32 data, .int .i64 0, .int .i64 0, .int .i64 0, .int .i64 0, .int .i64 0, .bool false, .int .i64 0, .int .u32 0, .int .u32 0, .bool false, .bool false, .int .i64 0, .bool false] 33 w.heap.size #[.int .i64 2, .int .i64 size, .int .u32 addr, .bool true, .int .u32 data, .int .i64 0, .int .i64 0, .int .i64 0, .int .i64 0, .int .i64 0, .bool false, .int .i64 0, .int .u32 0, .int .u32 0, .bool false, .bool false, .int .i64 0, .bool false] 33 w3.heap.size W)) 10 rfl #[false, false, false, false, false, false, false, false, false, false] rfl (by kernel_rfl) ?_
  refine region_s ?_ ?_
  · first | exact hK3.drew | exact hS.below (by assumption) | exact hS.alloc _ | exact hS.app hownA hg5 (by omega) (by have := hS.sz; omega) (by decide) (by decide)
  intro hS
  refine region_take (i := 0) (oi := ⟨(some 19), (Op.move (Operand.tmp 4)), 43, _, _, none⟩) (v := ?_) #[true, false, false, false, false, false, false, false, false, false] rfl (by kernel_rfl) (by kernel_rfl) (by kernel_rfl) (fun _ _ _ h => h) hS ?_ rfl ?_
  rotate_left
  · refine Or.inl ⟨rfl, fun W hW => ?_⟩
    dsimp only at hW
    have hr := hW.r1
    have c1 := rowc hr 1
    have c2 := rowc hr 2
    simp only [List.getElem?_cons_zero, List.getElem?_cons_succ] at c1 c2
    go_simp
    try rfl
  try simp only [Act.put, List.setIfInBounds_toArray, List.set_cons_zero, List.set_cons_succ]
  refine region_take (i := 1) (oi := ⟨(some 20), (Op.fieldAddr 33 (Operand.tmp 1) 1), 0, _, _, none⟩) (v := ?_) #[true, true, false, false, false, false, false, false, false, false] rfl (by kernel_rfl) (by kernel_rfl) (by kernel_rfl) (fun _ _ _ h => h) hS ?_ rfl ?_
  rotate_left
  · refine Or.inl ⟨rfl, fun W hW => ?_⟩
    dsimp only at hW
    have hr := hW.r1
    have c1 := rowc hr 1
    have c2 := rowc hr 2
    simp only [List.getElem?_cons_zero, List.getElem?_cons_succ] at c1 c2
    go_simp
    try rfl
  try simp only [Act.put, List.setIfInBounds_toArray, List.set_cons_zero, List.set_cons_succ]
  refine region_take (i := 2) (oi := ⟨(some 21), (Op.load 3 (Operand.tmp 20)), 3, _, _, none⟩) (v := ?_) #[true, true, true, false, false, false, false, false, false, false] rfl (by kernel_rfl) (by kernel_rfl) (by kernel_rfl) (fun _ _ _ h => h) hS ?_ rfl ?_
  rotate_left
  · refine Or.inl ⟨rfl, fun W hW => ?_⟩
    dsimp only at hW
    have hr := hW.r1
    have c1 := rowc hr 1
    have c2 := rowc hr 2
    simp only [List.getElem?_cons_zero, List.getElem?_cons_succ] at c1 c2
    go_simp
    try rfl
  try simp only [Act.put, List.setIfInBounds_toArray, List.set_cons_zero, List.set_cons_succ]
  refine region_take (i := 4) (oi := ⟨(some 23), (Op.fieldAddr 33 (Operand.tmp 1) 2), 0, _, _, none⟩) (v := ?_) #[true, true, true, false, true, false, false, false, false, false] rfl (by kernel_rfl) (by kernel_rfl) (by kernel_rfl) (fun _ _ _ h => h) hS ?_ rfl ?_
  rotate_left
  · refine Or.inl ⟨rfl, fun W hW => ?_⟩
    dsimp only at hW
    have hr := hW.r1
    have c1 := rowc hr 1
    have c2 := rowc hr 2
    simp only [List.getElem?_cons_zero, List.getElem?_cons_succ] at c1 c2
    go_simp
    try rfl
  try simp only [Act.put, List.setIfInBounds_toArray, List.set_cons_zero, List.set_cons_succ]
  refine region_take (i := 5) (oi := ⟨(some 24), (Op.load 24 (Operand.tmp 23)), 24, _, _, none⟩) (v := ?_) #[true, true, true, false, true, true, false, false, false, false] rfl (by kernel_rfl) (by kernel_rfl) (by kernel_rfl) (fun _ _ _ h => h) hS ?_ rfl ?_
  rotate_left
  · refine Or.inl ⟨rfl, fun W hW => ?_⟩
    dsimp only at hW
    have hr := hW.r1
    have c1 := rowc hr 1
    have c2 := rowc hr 2
    simp only [List.getElem?_cons_zero, List.getElem?_cons_succ] at c1 c2
    go_simp
    try rfl
  try simp only [Act.put, List.setIfInBounds_toArray, List.set_cons_zero, List.set_cons_succ]
  refine region_op (i := 3) (oi := ⟨(some 22), (Op.call { callee := (Callee.value (Operand.func 59)), args := #[(Operand.tmp 21)], argTypes := #[3] }), 9, _, _, none⟩) #[true, true, true, true, true, true, false, false, false, false] rfl (by kernel_rfl) rfl rfl ?_
  intro K hK
  go_simp; refine (itoa_any size (by omega) (by omega) _ hG3.drew).mono ?_; rintro e wa ⟨rfl, hba⟩; have hGa := hG3.drew.below hba; have howna := (show Own w3.drew (w.heap.size + 1) v3 _ from hown3).below hba
  refine hK _ _ ⟨?_, fun hS => ?_⟩
  · first | exact hK3.drew | exact hS.below (by assumption) | exact hS.alloc _ | exact hS.app hownA hg5 (by omega) (by have := hS.sz; omega) (by decide) (by decide)
  try simp only [Act.put, List.setIfInBounds_toArray, List.set_cons_zero, List.set_cons_succ]
  refine region_op (i := 6) (oi := ⟨(some 25), (Op.call { callee := (Callee.value (Operand.func 60)), args := #[(Operand.tmp 24)], argTypes := #[24] }), 9, _, _, none⟩) #[true, true, true, true, true, true, true, false, false, false] rfl (by kernel_rfl) rfl rfl ?_
  intro K hK
  go_simp; refine (hex60S addr had0 had1 _ hGa).mono ?_; rintro e wb ⟨rfl, hbb⟩; have hGb := hGa.below hbb; have hownb := howna.below hbb
  refine hK _ _ ⟨?_, fun hS => ?_⟩
  · first | exact hK3.drew | exact hS.below (by assumption) | exact hS.alloc _ | exact hS.app hownA hg5 (by omega) (by have := hS.sz; omega) (by decide) (by decide)
  try simp only [Act.put, List.setIfInBounds_toArray, List.set_cons_zero, List.set_cons_succ]
  refine region_op (i := 7) (oi := ⟨(some 26), (Op.buildSlice 43 2 #[(0, (Operand.tmp 22)), (1, (Operand.tmp 25))]), 43, _, _, none⟩) #[true, true, true, true, true, true, true, true, false, false] rfl (by kernel_rfl) rfl rfl ?_
  intro K hK
  go_simp
  refine hK _ _ ⟨?_, fun hS => ?_⟩
  · first | exact hK3.drew | exact hS.below (by assumption) | exact hS.alloc _ | exact hS.app hownA hg5 (by omega) (by have := hS.sz; omega) (by decide) (by decide)
  try simp only [Act.put, List.setIfInBounds_toArray, List.set_cons_zero, List.set_cons_succ]
  refine region_op (i := 8) (oi := ⟨(some 27), (Op.call { callee := (Callee.builtin Builtin.append), args := #[(Operand.tmp 19), (Operand.tmp 26)], argTypes := #[43, 43] }), 43, _, _, none⟩) #[true, true, true, true, true, true, true, true, true, false] rfl (by kernel_rfl) rfl rfl ?_
  intro K hK
  have hownA := hownb.below ((Below.refl _ _).alloc (Nat.le_refl _) (.cells (List.map str [Lib.itoa size, hexN 8 addr.toNat]).toArray 9)); refine wp_app _ _ rfl (w.heap.size + 1) v3 _ [Lib.itoa size, hexN 8 addr.toNat] _ 2 rfl rfl rfl hownA (heap_alloc_new _ _) (by simp) (by have := hS.sz; omega) ?_; intro v5 w5 hown5 hg5; simp only [List.cons_append, List.nil_append] at hown5
  refine hK _ _ ⟨?_, fun hS => ?_⟩
  · first | exact hK3.drew | exact hS.below (by assumption) | exact hS.alloc _ | exact hS.app hownA hg5 (by omega) (by have := hS.sz; omega) (by decide) (by decide)
  try simp only [Act.put, List.setIfInBounds_toArray, List.set_cons_zero, List.set_cons_succ]
  refine region_take (i := 9) (oi := ⟨(some 4), (Op.assign (Operand.tmp 27)), 43, _, _, none⟩) (v := ?_) #[true, true, true, true, true, true, true, true, true, true] rfl (by kernel_rfl) (by kernel_rfl) (by kernel_rfl) (fun _ _ _ h => h) hS ?_ rfl ?_
  rotate_left
  · refine Or.inl ⟨rfl, fun W hW => ?_⟩
    dsimp only at hW
    have hr := hW.r1
    have c1 := rowc hr 1
    have c2 := rowc hr 2
    simp only [List.getElem?_cons_zero, List.getElem?_cons_succ] at c1 c2
    go_simp
    try rfl
  try simp only [Act.put, List.setIfInBounds_toArray, List.set_cons_zero, List.set_cons_succ]
  refine wpAnyH_done (by kernel_rfl) ?_ _
  skip
  have hrow5 := hS.r1
  have hB5' := hS.low
  have hG5 := hG.below hB5'
  have hs5' : w.heap.size < w5.heap.size := by have := hS.sz; omega
  clear hS hGa hGb howna hownb hownA hK3 hB3' hG3 hs3' hrow3 hown3 hba hbb hg5 hc3_0 hc3_1 hc3_3 hc3_4 hc3_5
  have hc5 := rowc hrow5
  have hc5_0 := hc5 0
  have hc5_3 := hc5 3
  have hc5_4 := hc5 4
  have hc5_5 := hc5 5
  simp only [List.getElem?_cons_zero, List.getElem?_cons_succ] at hc5_0 hc5_3 hc5_4 hc5_5
  clear hc5
  go_wp2_with (first | (at_builtin; have hownq6 := (hown5).below ((Below.refl _ _).alloc (Nat.le_refl _) (.cells #[str ([43])] 9)); have hrowq6 := (Below.heap_alloc w5 (.cells #[str ([43])] 9) _ (heap_lt (hrow5))).trans (hrow5); refine wpl_app rfl (.tmp 30) (.tmp 31) rfl (w.heap.size + 1) v5 _ [[43]] (w5).heap.size 1 rfl rfl rfl hownq6 (heap_alloc_new _ _) (by simp) (by have := heap_lt (hrow5); simp; omega) ?_; intro v6 w6 hown6 hg6; simp only [List.cons_append, List.nil_append] at hown6; have hrow6 := Own.keep hownq6 hg6 hrowq6 (by decide); have hB6' : Below w.heap.size w w6 := (Below.alloc hB5' (by have := heap_lt (hrow5); omega) (.cells #[str ([43])] 9)).trans ((Own.grown hownq6 hg6 (by have := heap_lt (hrow5); simp; omega)).mono (by omega)); have hG6 := hG.below hB6'; have hc6 := rowc hrow6; have hc6_0 := hc6 0; have hc6_4 := hc6 4; have hc6_5 := hc6 5; simp only [List.getElem?_cons_zero, List.getElem?_cons_succ] at hc6_0 hc6_4 hc6_5; clear hc6) | (go_at_call 60; (with_reducible refine (hex60S data hd0 hd1 w6 hG6).mono ?_); rintro e wc8 ⟨rfl, hbc8⟩) | (at_builtin; have hownq8 := (hown6.below hbc8).below ((Below.refl _ _).alloc (Nat.le_refl _) (.cells #[str (hexN 8 data.toNat)] 9)); have hrowq8 := (Below.heap_alloc wc8 (.cells #[str (hexN 8 data.toNat)] 9) _ (heap_lt ((hbc8.block w.heap.size (heap_lt hrow6)).trans hrow6))).trans ((hbc8.block w.heap.size (heap_lt hrow6)).trans hrow6); refine wpl_app rfl (.tmp 39) (.tmp 43) rfl (w.heap.size + 1) v6 _ [hexN 8 data.toNat] (wc8).heap.size 1 rfl rfl rfl hownq8 (heap_alloc_new _ _) (by simp) (by have := heap_lt ((hbc8.block w.heap.size (heap_lt hrow6)).trans hrow6); simp; omega) ?_; intro v8 w8 hown8 hg8; simp only [List.cons_append, List.nil_append] at hown8; have hrow8 := Own.keep hownq8 hg8 hrowq8 (by decide); have hB8' : Below w.heap.size w w8 := (Below.alloc (hB6'.trans (hbc8.mono hB6'.size)) (by have := heap_lt ((hbc8.block w.heap.size (heap_lt hrow6)).trans hrow6); omega) (.cells #[str (hexN 8 data.toNat)] 9)).trans ((Own.grown hownq8 hg8 (by have := heap_lt ((hbc8.block w.heap.size (heap_lt hrow6)).trans hrow6); simp; omega)).mono (by omega)); have hG8 := hG.below hB8'; have hc8 := rowc hrow8; have hc8_0 := hc8 0; have hc8_5 := hc8 5; simp only [List.getElem?_cons_zero, List.getElem?_cons_succ] at hc8_0 hc8_5; clear hc8) | (go_at_call 55; (with_reducible refine (join55 w8 (w.heap.size + 1) v8 _ hown8 (by simp) hlen'.out).mono ?_); rintro e w19 ⟨rfl, hb19⟩))
  go_ret2
  exact ⟨rfl, hB8'.trans (hb19.mono hB8'.size)⟩
end Go.Proofs.YtmjojlacpgdomaaGreatDoor
