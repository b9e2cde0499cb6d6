import Derived.Test.YtmjojlacpgdomaaGreatDoorBinstr
import Derived.Test.YtmjojlacpgdomaaGreatDoorBshconf
/-! prog.Instr: store, put, wait. -/
namespace Go.Proofs.YtmjojlacpgdomaaGreatDoor
set_option linter.unusedSimpArgs false
set_option linter.unusedVariables false
open Go Go.RowKit
attribute [local go_sem] setRow_new setRow_old
set_option maxRecDepth 100000 in
set_option maxHeartbeats 1000000 in
theorem instr_2 (size addr data to k ix wo li rw rf rt rk : Int) (idx on rd wr lk : Bool) (w : World) (hdat : data ≤ 4294967295) :
    Calls Tryz.prog 15 #[.agg #[.int .i64 2, .int .i64 size, .int .u32 addr, .bool idx, .int .u32 data, .int .i64 to, .int .i64 k, .int .i64 ix, .int .i64 wo, .int .i64 li, .bool on, .int .i64 rw, .int .u32 rf, .int .u32 rt, .bool rd, .bool wr, .int .i64 rk, .bool lk]] w fun e w' => e = .returned (.bool ((size == 1 || (size == 2 || size == 4)) && insNone 0 0 false 0 to ⟨k, ix, wo, li, ⟨on, rw, rf, rt, rd, wr, rk, lk⟩⟩)) ∧ Below w.heap.size w w' := by
  have hc0 : (w.alloc (.cells #[.int .i64 2, .int .i64 size, .int .u32 addr, .bool idx, .int .u32 data, .int .i64 to, .int .i64 k, .int .i64 ix, .int .i64 wo, .int .i64 li, .bool on, .int .i64 rw, .int .u32 rf, .int .u32 rt, .bool rd, .bool wr, .int .i64 rk, .bool lk] 33)).cell? ⟨w.heap.size, 0, none⟩ = some (.int .i64 2) := by simp
  have hcl : (w.alloc (.cells #[.int .i64 2, .int .i64 size, .int .u32 addr, .bool idx, .int .u32 data, .int .i64 to, .int .i64 k, .int .i64 ix, .int .i64 wo, .int .i64 li, .bool on, .int .i64 rw, .int .u32 rf, .int .u32 rt, .bool rd, .bool wr, .int .i64 rk, .bool lk] 33)).heap[w.heap.size]? = some (.cells #[.int .i64 2, .int .i64 size, .int .u32 addr, .bool idx, .int .u32 data, .int .i64 to, .int .i64 k, .int .i64 ix, .int .i64 wo, .int .i64 li, .bool on, .int .i64 rw, .int .u32 rf, .int .u32 rt, .bool rd, .bool wr, .int .i64 rk, .bool lk] 33) := heap_alloc_new _ _
  go_enter Tryz.func15, Tryz.ntmps15
  go_wp2_with fail
  refine region_start (S := (fun W => Below (w.heap.size + 1) (w.alloc (.cells #[.int .i64 2, .int .i64 size, .int .u32 addr, .bool idx, .int .u32 data, .int .i64 to, .int .i64 k, .int .i64 ix, .int .i64 wo, .int .i64 li, .bool on, .int .i64 rw, .int .u32 rf, .int .u32 rt, .bool rd, .bool wr, .int .i64 rk, .bool lk] 33)) W)) 10 rfl #[false, false, false, false, false, false, false, false, false, false] rfl (by kernel_rfl) ?_
  refine region_s ?_ ?_
  · (show Below _ _ _; repeat (first | exact Below.refl _ _ | assumption | refine Below.drew ?_ | refine Below.alloc ?_ (by first | omega | (simp; done) | (simp; omega) | (simp [World.setCell]; omega)) _ | refine Below.setCell ?_ (by first | omega | (simp; done) | (simp; omega) | (simp [World.setCell]; omega)) _ | refine below_setRow ?_ (by first | omega | (simp; done) | (simp; omega) | (simp [World.setCell]; omega)) _ | (refine Below.trans ?_ (Below.mono (by assumption) (by first | omega | (simp; done) | (simp; omega) | (simp [World.setCell]; omega))))))
  intro hS
  refine region_take (i := 1) (oi := ⟨(some 7), (Op.fieldAddr 33 (Operand.tmp 1) 0), 0, _, _, none⟩) (v := ?_) #[false, true, false, false, false, false, false, false, false, false] rfl (by kernel_rfl) (by kernel_rfl) (by kernel_rfl) (fun _ _ _ h => h) hS ?_ rfl ?_
  rotate_left
  · refine Or.inl ⟨rfl, fun W hW => ?_⟩
    dsimp only at hW
    have hx0 := (hW.cell (p := ⟨w.heap.size, 0, none⟩) (by simp)).trans hc0
    go_simp
    try rfl
  try simp only [Act.put, List.setIfInBounds_toArray, List.set_cons_zero, List.set_cons_succ]
  refine region_take (i := 2) (oi := ⟨(some 8), (Op.load 23 (Operand.tmp 7)), 23, _, _, none⟩) (v := ?_) #[false, true, true, false, false, false, false, false, false, false] rfl (by kernel_rfl) (by kernel_rfl) (by kernel_rfl) (fun _ _ _ h => h) hS ?_ rfl ?_
  rotate_left
  · refine Or.inl ⟨rfl, fun W hW => ?_⟩
    dsimp only at hW
    have hx0 := (hW.cell (p := ⟨w.heap.size, 0, none⟩) (by simp)).trans hc0
    go_simp
    try rfl
  try simp only [Act.put, List.setIfInBounds_toArray, List.set_cons_zero, List.set_cons_succ]
  refine region_two (i := 0) (j := 7) (oi := ⟨(some 6), (Op.call { callee := (Callee.value (Operand.func 45)), args := #[], argTypes := #[] }), 85, _, _, none⟩) (oj := ⟨(some 3), (Op.alloc 83), 0, _, _, none⟩) #[true, true, true, false, false, false, false, false, false, false] #[false, true, true, false, false, false, false, true, false, false] rfl rfl (by kernel_rfl) rfl rfl rfl rfl ?_ ?_
  · intro K hK
    go_simp; refine (mapKinds_any _).mono ?_; rintro e w1 ⟨rfl, rfl⟩
    refine hK _ _ ⟨?_, fun hS => ?_⟩
    · (show Below _ _ _; repeat (first | exact Below.refl _ _ | assumption | refine Below.drew ?_ | refine Below.alloc ?_ (by first | omega | (simp; done) | (simp; omega) | (simp [World.setCell]; omega)) _ | refine Below.setCell ?_ (by first | omega | (simp; done) | (simp; omega) | (simp [World.setCell]; omega)) _ | refine below_setRow ?_ (by first | omega | (simp; done) | (simp; omega) | (simp [World.setCell]; omega)) _ | (refine Below.trans ?_ (Below.mono (by assumption) (by first | omega | (simp; done) | (simp; omega) | (simp [World.setCell]; omega))))))
    try simp only [Act.put, List.setIfInBounds_toArray, List.set_cons_zero, List.set_cons_succ]
    refine region_two (i := 3) (j := 7) (oi := ⟨(some 9), (Op.lookup 85 (Operand.tmp 6) (Operand.tmp 8) true), 84, _, _, none⟩) (oj := ⟨(some 3), (Op.alloc 83), 0, _, _, none⟩) #[true, true, true, true, false, false, false, false, false, false] #[true, true, true, false, false, false, false, true, false, false] rfl rfl (by kernel_rfl) rfl rfl rfl rfl ?_ ?_
    · intro K hK
      refine wp_lookK _ _ 2 (kindV [115, 116, 111, 114, 101] 106) 1 _ rfl rfl rfl rfl ?_ ?_; (· (try simp only [alloc_drew, heap_drew]; first | exact heap_alloc_new _ _ | exact hp1 _ _ _ | exact hp2 _ _ _ _ | exact hp3 _ _ _ _ _ | exact hq1 _ _ _ | exact hq2 _ _ _ _ | exact hq3 _ _ _ _ _ | exact hr2 _ _ _ _ | exact hr3 _ _ _ _ _ | (simp; done)))
      refine hK _ _ ⟨?_, fun hS => ?_⟩
      · (show Below _ _ _; repeat (first | exact Below.refl _ _ | assumption | refine Below.drew ?_ | refine Below.alloc ?_ (by first | omega | (simp; done) | (simp; omega) | (simp [World.setCell]; omega)) _ | refine Below.setCell ?_ (by first | omega | (simp; done) | (simp; omega) | (simp [World.setCell]; omega)) _ | refine below_setRow ?_ (by first | omega | (simp; done) | (simp; omega) | (simp [World.setCell]; omega)) _ | (refine Below.trans ?_ (Below.mono (by assumption) (by first | omega | (simp; done) | (simp; omega) | (simp [World.setCell]; omega))))))
      try simp only [Act.put, List.setIfInBounds_toArray, List.set_cons_zero, List.set_cons_succ]
      refine region_take (i := 4) (oi := ⟨(some 5), (Op.move (Operand.tmp 9)), 84, _, _, none⟩) (v := ?_) #[true, true, true, true, true, false, false, false, false, false] rfl (by kernel_rfl) (by kernel_rfl) (by kernel_rfl) (fun _ _ _ h => h) hS ?_ rfl ?_
      rotate_left
      · refine Or.inl ⟨rfl, fun W hW => ?_⟩
        dsimp only at hW
        have hx0 := (hW.cell (p := ⟨w.heap.size, 0, none⟩) (by simp)).trans hc0
        go_simp
        try rfl
      try simp only [Act.put, List.setIfInBounds_toArray, List.set_cons_zero, List.set_cons_succ]
      refine region_take (i := 5) (oi := ⟨(some 10), (Op.extract (Operand.tmp 5) 0), 83, _, _, none⟩) (v := ?_) #[true, true, true, true, true, true, false, false, false, false] rfl (by kernel_rfl) (by kernel_rfl) (by kernel_rfl) (fun _ _ _ h => h) hS ?_ rfl ?_
      rotate_left
      · refine Or.inl ⟨rfl, fun W hW => ?_⟩
        dsimp only at hW
        have hx0 := (hW.cell (p := ⟨w.heap.size, 0, none⟩) (by simp)).trans hc0
        go_simp
        try rfl
      try simp only [Act.put, List.setIfInBounds_toArray, List.set_cons_zero, List.set_cons_succ]
      refine region_take (i := 6) (oi := ⟨(some 11), (Op.extract (Operand.tmp 5) 1), 4, _, _, none⟩) (v := ?_) #[true, true, true, true, true, true, true, false, false, false] rfl (by kernel_rfl) (by kernel_rfl) (by kernel_rfl) (fun _ _ _ h => h) hS ?_ rfl ?_
      rotate_left
      · refine Or.inl ⟨rfl, fun W hW => ?_⟩
        dsimp only at hW
        have hx0 := (hW.cell (p := ⟨w.heap.size, 0, none⟩) (by simp)).trans hc0
        go_simp
        try rfl
      try simp only [Act.put, List.setIfInBounds_toArray, List.set_cons_zero, List.set_cons_succ]
      refine region_op (i := 7) (oi := ⟨(some 3), (Op.alloc 83), 0, _, _, none⟩) #[true, true, true, true, true, true, true, true, false, false] rfl (by kernel_rfl) rfl rfl ?_
      intro K hK
      go_simp
      refine hK _ _ ⟨?_, fun hS => ?_⟩
      · (show Below _ _ _; repeat (first | exact Below.refl _ _ | assumption | refine Below.drew ?_ | refine Below.alloc ?_ (by first | omega | (simp; done) | (simp; omega) | (simp [World.setCell]; omega)) _ | refine Below.setCell ?_ (by first | omega | (simp; done) | (simp; omega) | (simp [World.setCell]; omega)) _ | refine below_setRow ?_ (by first | omega | (simp; done) | (simp; omega) | (simp [World.setCell]; omega)) _ | (refine Below.trans ?_ (Below.mono (by assumption) (by first | omega | (simp; done) | (simp; omega) | (simp [World.setCell]; omega))))))
      try simp only [Act.put, List.setIfInBounds_toArray, List.set_cons_zero, List.set_cons_succ]
      refine region_op (i := 8) (oi := ⟨none, (Op.store 83 (Operand.tmp 3) (Operand.tmp 10)), 0, _, _, none⟩) #[true, true, true, true, true, true, true, true, true, false] rfl (by kernel_rfl) rfl rfl ?_
      intro K hK
      refine wp_store 83 _ _ rfl _ 0 83 [.string ⟨#[]⟩, .nilFunc] [.string ⟨#[115, 116, 111, 114, 101]⟩, .func (.func 106) #[] #[]] ?_ rfl rfl (by kernel_rfl) (by simp) rfl [.string ⟨#[115, 116, 111, 114, 101]⟩, .func (.func 106) #[] #[]] rfl ?_; (· (try simp only [alloc_drew, heap_drew]; first | exact heap_alloc_new _ _ | exact hp1 _ _ _ | exact hp2 _ _ _ _ | exact hp3 _ _ _ _ _ | exact hq1 _ _ _ | exact hq2 _ _ _ _ | exact hq3 _ _ _ _ _ | exact hr2 _ _ _ _ | exact hr3 _ _ _ _ _ | (simp; done)))
      refine hK _ _ ⟨?_, fun hS => ?_⟩
      · (show Below _ _ _; repeat (first | exact Below.refl _ _ | assumption | refine Below.drew ?_ | refine Below.alloc ?_ (by first | omega | (simp; done) | (simp; omega) | (simp [World.setCell]; omega)) _ | refine Below.setCell ?_ (by first | omega | (simp; done) | (simp; omega) | (simp [World.setCell]; omega)) _ | refine below_setRow ?_ (by first | omega | (simp; done) | (simp; omega) | (simp [World.setCell]; omega)) _ | (refine Below.trans ?_ (Below.mono (by assumption) (by first | omega | (simp; done) | (simp; omega) | (simp [World.setCell]; omega))))))
      try simp only [Act.put, List.setIfInBounds_toArray, List.set_cons_zero, List.set_cons_succ]
      refine region_take (i := 9) (oi := ⟨(some 4), (Op.assign (Operand.tmp 11)), 4, _, _, none⟩) (v := ?_) #[true, true, true, true, true, true, true, true, true, true] rfl (by kernel_rfl) (by kernel_rfl) (by kernel_rfl) (fun _ _ _ h => h) hS ?_ rfl ?_
      rotate_left
      · refine Or.inl ⟨rfl, fun W hW => ?_⟩
        dsimp only at hW
        have hx0 := (hW.cell (p := ⟨w.heap.size, 0, none⟩) (by simp)).trans hc0
        go_simp
        try rfl
      try simp only [Act.put, List.setIfInBounds_toArray, List.set_cons_zero, List.set_cons_succ]
      refine anyH_forget (F := (fun W => Below (w.heap.size + 1) (w.alloc (.cells #[.int .i64 2, .int .i64 size, .int .u32 addr, .bool idx, .int .u32 data, .int .i64 to, .int .i64 k, .int .i64 ix, .int .i64 wo, .int .i64 li, .bool on, .int .i64 rw, .int .u32 rf, .int .u32 rt, .bool rd, .bool wr, .int .i64 rk, .bool lk] 33)) W ∧ W.heap[w.heap.size + 1 + 1]? = some (.cells #[.string ⟨#[115, 116, 111, 114, 101]⟩, .func (.func 106) #[] #[]] 83))) ⟨hS, setRow_heap _ _ _ _ _ _ (by (try simp only [alloc_drew, heap_drew]; first | exact heap_alloc_new _ _ | exact hp1 _ _ _ | exact hp2 _ _ _ _ | exact hp3 _ _ _ _ _ | exact hq1 _ _ _ | exact hq2 _ _ _ _ | exact hq3 _ _ _ _ _ | exact hr2 _ _ _ _ | exact hr3 _ _ _ _ _ | (simp; done)))⟩ ?_
      rintro w5 ⟨hB5, hr5⟩
      refine wpAnyH_done (by kernel_rfl) ?_ _
      have hrow := (hB5.block w.heap.size (by omega)).trans hcl
      have hsz := hB5.size
      simp at hsz
      have hc5 := rowc hr5 1
      simp only [List.getElem?_cons_succ, List.getElem?_cons_zero] at hc5
      clear hS hr5 hc0 hcl
      go_wp2_with (first | (go_at_call 106; (with_reducible refine (shStore_any 2 size addr data to k ix wo li rw rf rt rk idx on rd wr lk _ hdat).mono ?_); rintro e w6 ⟨rfl, hb6⟩) | ((with_reducible refine wpl_load 33 _ rfl ?_ w.heap.size 0 ?_ _ _ (CellsAt.of_block hrow) Tryz.underlying33 rfl (by kernel_rfl) ?_); (· rfl); (· rfl)))
      go_ret
      exact ⟨rfl, ((Below.refl _ _).alloc (Nat.le_refl _) _).trans ((hB5.mono (by omega)).trans (hb6.mono (by omega)))⟩
    · intro K hK
      go_simp
      refine hK _ _ ⟨?_, fun hS => ?_⟩
      · (show Below _ _ _; repeat (first | exact Below.refl _ _ | assumption | refine Below.drew ?_ | refine Below.alloc ?_ (by first | omega | (simp; done) | (simp; omega) | (simp [World.setCell]; omega)) _ | refine Below.setCell ?_ (by first | omega | (simp; done) | (simp; omega) | (simp [World.setCell]; omega)) _ | refine below_setRow ?_ (by first | omega | (simp; done) | (simp; omega) | (simp [World.setCell]; omega)) _ | (refine Below.trans ?_ (Below.mono (by assumption) (by first | omega | (simp; done) | (simp; omega) | (simp [World.setCell]; omega))))))
      try simp only [Act.put, List.setIfInBounds_toArray, List.set_cons_zero, List.set_cons_succ]
      refine region_op (i := 3) (oi := ⟨(some 9), (Op.lookup 85 (Operand.tmp 6) (Operand.tmp 8) true), 84, _, _, none⟩) #[true, true, true, true, false, false, false, true, false, false] rfl (by kernel_rfl) rfl rfl ?_
      intro K hK
      refine wp_lookK _ _ 2 (kindV [115, 116, 111, 114, 101] 106) 1 _ rfl rfl rfl rfl ?_ ?_; (· (try simp only [alloc_drew, heap_drew]; first | exact heap_alloc_new _ _ | exact hp1 _ _ _ | exact hp2 _ _ _ _ | exact hp3 _ _ _ _ _ | exact hq1 _ _ _ | exact hq2 _ _ _ _ | exact hq3 _ _ _ _ _ | exact hr2 _ _ _ _ | exact hr3 _ _ _ _ _ | (simp; done)))
      refine hK _ _ ⟨?_, fun hS => ?_⟩
      · (show Below _ _ _; repeat (first | exact Below.refl _ _ | assumption | refine Below.drew ?_ | refine Below.alloc ?_ (by first | omega | (simp; done) | (simp; omega) | (simp [World.setCell]; omega)) _ | refine Below.setCell ?_ (by first | omega | (simp; done) | (simp; omega) | (simp [World.setCell]; omega)) _ | refine below_setRow ?_ (by first | omega | (simp; done) | (simp; omega) | (simp [World.setCell]; omega)) _ | (refine Below.trans ?_ (Below.mono (by assumption) (by first | omega | (simp; done) | (simp; omega) | (simp [World.setCell]; omega))))))
      try simp only [Act.put, List.setIfInBounds_toArray, List.set_cons_zero, List.set_cons_succ]
      refine region_take (i := 4) (oi := ⟨(some 5), (Op.move (Operand.tmp 9)), 84, _, _, none⟩) (v := ?_) #[true, true, true, true, true, false, false, true, false, false] rfl (by kernel_rfl) (by kernel_rfl) (by kernel_rfl) (fun _ _ _ h => h) hS ?_ rfl ?_
      rotate_left
      · refine Or.inl ⟨rfl, fun W hW => ?_⟩
        dsimp only at hW
        have hx0 := (hW.cell (p := ⟨w.heap.size, 0, none⟩) (by simp)).trans hc0
        go_simp
        try rfl
      try simp only [Act.put, List.setIfInBounds_toArray, List.set_cons_zero, List.set_cons_succ]
      refine region_take (i := 5) (oi := ⟨(some 10), (Op.extract (Operand.tmp 5) 0), 83, _, _, none⟩) (v := ?_) #[true, true, true, true, true, true, false, true, false, false] rfl (by kernel_rfl) (by kernel_rfl) (by kernel_rfl) (fun _ _ _ h => h) hS ?_ rfl ?_
      rotate_left
      · refine Or.inl ⟨rfl, fun W hW => ?_⟩
        dsimp only at hW
        have hx0 := (hW.cell (p := ⟨w.heap.size, 0, none⟩) (by simp)).trans hc0
        go_simp
        try rfl
      try simp only [Act.put, List.setIfInBounds_toArray, List.set_cons_zero, List.set_cons_succ]
      refine region_take (i := 6) (oi := ⟨(some 11), (Op.extract (Operand.tmp 5) 1), 4, _, _, none⟩) (v := ?_) #[true, true, true, true, true, true, true, true, false, false] rfl (by kernel_rfl) (by kernel_rfl) (by kernel_rfl) (fun _ _ _ h => h) hS ?_ rfl ?_
      rotate_left
      · refine Or.inl ⟨rfl, fun W hW => ?_⟩
        dsimp only at hW
        have hx0 := (hW.cell (p := ⟨w.heap.size, 0, none⟩) (by simp)).trans hc0
        go_simp
        try rfl
      try simp only [Act.put, List.setIfInBounds_toArray, List.set_cons_zero, List.set_cons_succ]
      refine region_op (i := 8) (oi := ⟨none, (Op.store 83 (Operand.tmp 3) (Operand.tmp 10)), 0, _, _, none⟩) #[true, true, true, true, true, true, true, true, true, false] rfl (by kernel_rfl) rfl rfl ?_
      intro K hK
      refine wp_store 83 _ _ rfl _ 0 83 [.string ⟨#[]⟩, .nilFunc] [.string ⟨#[115, 116, 111, 114, 101]⟩, .func (.func 106) #[] #[]] ?_ rfl rfl (by kernel_rfl) (by simp) rfl [.string ⟨#[115, 116, 111, 114, 101]⟩, .func (.func 106) #[] #[]] rfl ?_; (· (try simp only [alloc_drew, heap_drew]; first | exact heap_alloc_new _ _ | exact hp1 _ _ _ | exact hp2 _ _ _ _ | exact hp3 _ _ _ _ _ | exact hq1 _ _ _ | exact hq2 _ _ _ _ | exact hq3 _ _ _ _ _ | exact hr2 _ _ _ _ | exact hr3 _ _ _ _ _ | (simp; done)))
      refine hK _ _ ⟨?_, fun hS => ?_⟩
      · (show Below _ _ _; repeat (first | exact Below.refl _ _ | assumption | refine Below.drew ?_ | refine Below.alloc ?_ (by first | omega | (simp; done) | (simp; omega) | (simp [World.setCell]; omega)) _ | refine Below.setCell ?_ (by first | omega | (simp; done) | (simp; omega) | (simp [World.setCell]; omega)) _ | refine below_setRow ?_ (by first | omega | (simp; done) | (simp; omega) | (simp [World.setCell]; omega)) _ | (refine Below.trans ?_ (Below.mono (by assumption) (by first | omega | (simp; done) | (simp; omega) | (simp [World.setCell]; omega))))))
      try simp only [Act.put, List.setIfInBounds_toArray, List.set_cons_zero, List.set_cons_succ]
      refine region_take (i := 9) (oi := ⟨(some 4), (Op.assign (Operand.tmp 11)), 4, _, _, none⟩) (v := ?_) #[true, true, true, true, true, true, true, true, true, true] rfl (by kernel_rfl) (by kernel_rfl) (by kernel_rfl) (fun _ _ _ h => h) hS ?_ rfl ?_
      rotate_left
      · refine Or.inl ⟨rfl, fun W hW => ?_⟩
        dsimp only at hW
        have hx0 := (hW.cell (p := ⟨w.heap.size, 0, none⟩) (by simp)).trans hc0
        go_simp
        try rfl
      try simp only [Act.put, List.setIfInBounds_toArray, List.set_cons_zero, List.set_cons_succ]
      refine anyH_forget (F := (fun W => Below (w.heap.size + 1) (w.alloc (.cells #[.int .i64 2, .int .i64 size, .int .u32 addr, .bool idx, .int .u32 data, .int .i64 to, .int .i64 k, .int .i64 ix, .int .i64 wo, .int .i64 li, .bool on, .int .i64 rw, .int .u32 rf, .int .u32 rt, .bool rd, .bool wr, .int .i64 rk, .bool lk] 33)) W ∧ W.heap[w.heap.size + 1 + 1]? = some (.cells #[.string ⟨#[115, 116, 111, 114, 101]⟩, .func (.func 106) #[] #[]] 83))) ⟨hS, setRow_heap _ _ _ _ _ _ (by (try simp only [alloc_drew, heap_drew]; first | exact heap_alloc_new _ _ | exact hp1 _ _ _ | exact hp2 _ _ _ _ | exact hp3 _ _ _ _ _ | exact hq1 _ _ _ | exact hq2 _ _ _ _ | exact hq3 _ _ _ _ _ | exact hr2 _ _ _ _ | exact hr3 _ _ _ _ _ | (simp; done)))⟩ ?_
      rintro w5 ⟨hB5, hr5⟩
      refine wpAnyH_done (by kernel_rfl) ?_ _
      have hrow := (hB5.block w.heap.size (by omega)).trans hcl
      have hsz := hB5.size
      simp at hsz
      have hc5 := rowc hr5 1
      simp only [List.getElem?_cons_succ, List.getElem?_cons_zero] at hc5
      clear hS hr5 hc0 hcl
      go_wp2_with (first | (go_at_call 106; (with_reducible refine (shStore_any 2 size addr data to k ix wo li rw rf rt rk idx on rd wr lk _ hdat).mono ?_); rintro e w6 ⟨rfl, hb6⟩) | ((with_reducible refine wpl_load 33 _ rfl ?_ w.heap.size 0 ?_ _ _ (CellsAt.of_block hrow) Tryz.underlying33 rfl (by kernel_rfl) ?_); (· rfl); (· rfl)))
      go_ret
      exact ⟨rfl, ((Below.refl _ _).alloc (Nat.le_refl _) _).trans ((hB5.mono (by omega)).trans (hb6.mono (by omega)))⟩
  · intro K hK
    go_simp
    refine hK _ _ ⟨?_, fun hS => ?_⟩
    · (show Below _ _ _; repeat (first | exact Below.refl _ _ | assumption | refine Below.drew ?_ | refine Below.alloc ?_ (by first | omega | (simp; done) | (simp; omega) | (simp [World.setCell]; omega)) _ | refine Below.setCell ?_ (by first | omega | (simp; done) | (simp; omega) | (simp [World.setCell]; omega)) _ | refine below_setRow ?_ (by first | omega | (simp; done) | (simp; omega) | (simp [World.setCell]; omega)) _ | (refine Below.trans ?_ (Below.mono (by assumption) (by first | omega | (simp; done) | (simp; omega) | (simp [World.setCell]; omega))))))
    try simp only [Act.put, List.setIfInBounds_toArray, List.set_cons_zero, List.set_cons_succ]
    refine region_op (i := 0) (oi := ⟨(some 6), (Op.call { callee := (Callee.value (Operand.func 45)), args := #[], argTypes := #[] }), 85, _, _, none⟩) #[true, true, true, false, false, false, false, true, false, false] rfl (by kernel_rfl) rfl rfl ?_
    intro K hK
    go_simp; refine (mapKinds_any _).mono ?_; rintro e w1 ⟨rfl, rfl⟩
    refine hK _ _ ⟨?_, fun hS => ?_⟩
    · (show Below _ _ _; repeat (first | exact Below.refl _ _ | assumption | refine Below.drew ?_ | refine Below.alloc ?_ (by first | omega | (simp; done) | (simp; omega) | (simp [World.setCell]; omega)) _ | refine Below.setCell ?_ (by first | omega | (simp; done) | (simp; omega) | (simp [World.setCell]; omega)) _ | refine below_setRow ?_ (by first | omega | (simp; done) | (simp; omega) | (simp [World.setCell]; omega)) _ | (refine Below.trans ?_ (Below.mono (by assumption) (by first | omega | (simp; done) | (simp; omega) | (simp [World.setCell]; omega))))))
    try simp only [Act.put, List.setIfInBounds_toArray, List.set_cons_zero, List.set_cons_succ]
    refine region_op (i := 3) (oi := ⟨(some 9), (Op.lookup 85 (Operand.tmp 6) (Operand.tmp 8) true), 84, _, _, none⟩) #[true, true, true, true, false, false, false, true, false, false] rfl (by kernel_rfl) rfl rfl ?_
    intro K hK
    refine wp_lookK _ _ 2 (kindV [115, 116, 111, 114, 101] 106) 1 _ rfl rfl rfl rfl ?_ ?_; (· (try simp only [alloc_drew, heap_drew]; first | exact heap_alloc_new _ _ | exact hp1 _ _ _ | exact hp2 _ _ _ _ | exact hp3 _ _ _ _ _ | exact hq1 _ _ _ | exact hq2 _ _ _ _ | exact hq3 _ _ _ _ _ | exact hr2 _ _ _ _ | exact hr3 _ _ _ _ _ | (simp; done)))
    refine hK _ _ ⟨?_, fun hS => ?_⟩
    · (show Below _ _ _; repeat (first | exact Below.refl _ _ | assumption | refine Below.drew ?_ | refine Below.alloc ?_ (by first | omega | (simp; done) | (simp; omega) | (simp [World.setCell]; omega)) _ | refine Below.setCell ?_ (by first | omega | (simp; done) | (simp; omega) | (simp [World.setCell]; omega)) _ | refine below_setRow ?_ (by first | omega | (simp; done) | (simp; omega) | (simp [World.setCell]; omega)) _ | (refine Below.trans ?_ (Below.mono (by assumption) (by first | omega | (simp; done) | (simp; omega) | (simp [World.setCell]; omega))))))
    try simp only [Act.put, List.setIfInBounds_toArray, List.set_cons_zero, List.set_cons_succ]
    refine region_take (i := 4) (oi := ⟨(some 5), (Op.move (Operand.tmp 9)), 84, _, _, none⟩) (v := ?_) #[true, true, true, true, true, false, false, true, false, false] rfl (by kernel_rfl) (by kernel_rfl) (by kernel_rfl) (fun _ _ _ h => h) hS ?_ rfl ?_
    rotate_left
    · refine Or.inl ⟨rfl, fun W hW => ?_⟩
      dsimp only at hW
      have hx0 := (hW.cell (p := ⟨w.heap.size, 0, none⟩) (by simp)).trans hc0
      go_simp
      try rfl
    try simp only [Act.put, List.setIfInBounds_toArray, List.set_cons_zero, List.set_cons_succ]
    refine region_take (i := 5) (oi := ⟨(some 10), (Op.extract (Operand.tmp 5) 0), 83, _, _, none⟩) (v := ?_) #[true, true, true, true, true, true, false, true, false, false] rfl (by kernel_rfl) (by kernel_rfl) (by kernel_rfl) (fun _ _ _ h => h) hS ?_ rfl ?_
    rotate_left
    · refine Or.inl ⟨rfl, fun W hW => ?_⟩
      dsimp only at hW
      have hx0 := (hW.cell (p := ⟨w.heap.size, 0, none⟩) (by simp)).trans hc0
      go_simp
      try rfl
    try simp only [Act.put, List.setIfInBounds_toArray, List.set_cons_zero, List.set_cons_succ]
    refine region_take (i := 6) (oi := ⟨(some 11), (Op.extract (Operand.tmp 5) 1), 4, _, _, none⟩) (v := ?_) #[true, true, true, true, true, true, true, true, false, false] rfl (by kernel_rfl) (by kernel_rfl) (by kernel_rfl) (fun _ _ _ h => h) hS ?_ rfl ?_
    rotate_left
    · refine Or.inl ⟨rfl, fun W hW => ?_⟩
      dsimp only at hW
      have hx0 := (hW.cell (p := ⟨w.heap.size, 0, none⟩) (by simp)).trans hc0
      go_simp
      try rfl
    try simp only [Act.put, List.setIfInBounds_toArray, List.set_cons_zero, List.set_cons_succ]
    refine region_op (i := 8) (oi := ⟨none, (Op.store 83 (Operand.tmp 3) (Operand.tmp 10)), 0, _, _, none⟩) #[true, true, true, true, true, true, true, true, true, false] rfl (by kernel_rfl) rfl rfl ?_
    intro K hK
    refine wp_store 83 _ _ rfl _ 0 83 [.string ⟨#[]⟩, .nilFunc] [.string ⟨#[115, 116, 111, 114, 101]⟩, .func (.func 106) #[] #[]] ?_ rfl rfl (by kernel_rfl) (by simp) rfl [.string ⟨#[115, 116, 111, 114, 101]⟩, .func (.func 106) #[] #[]] rfl ?_; (· (try simp only [alloc_drew, heap_drew]; first | exact heap_alloc_new _ _ | exact hp1 _ _ _ | exact hp2 _ _ _ _ | exact hp3 _ _ _ _ _ | exact hq1 _ _ _ | exact hq2 _ _ _ _ | exact hq3 _ _ _ _ _ | exact hr2 _ _ _ _ | exact hr3 _ _ _ _ _ | (simp; done)))
    refine hK _ _ ⟨?_, fun hS => ?_⟩
    · (show Below _ _ _; repeat (first | exact Below.refl _ _ | assumption | refine Below.drew ?_ | refine Below.alloc ?_ (by first | omega | (simp; done) | (simp; omega) | (simp [World.setCell]; omega)) _ | refine Below.setCell ?_ (by first | omega | (simp; done) | (simp; omega) | (simp [World.setCell]; omega)) _ | refine below_setRow ?_ (by first | omega | (simp; done) | (simp; omega) | (simp [World.setCell]; omega)) _ | (refine Below.trans ?_ (Below.mono (by assumption) (by first | omega | (simp; done) | (simp; omega) | (simp [World.setCell]; omega))))))
    try simp only [Act.put, List.setIfInBounds_toArray, List.set_cons_zero, List.set_cons_succ]
    refine region_take (i := 9) (oi := ⟨(some 4), (Op.assign (Operand.tmp 11)), 4, _, _, none⟩) (v := ?_) #[true, true, true, true, true, true, true, true, true, true] rfl (by kernel_rfl) (by kernel_rfl) (by kernel_rfl) (fun _ _ _ h => h) hS ?_ rfl ?_
    rotate_left
    · refine Or.inl ⟨rfl, fun W hW => ?_⟩
      dsimp only at hW
      have hx0 := (hW.cell (p := ⟨w.heap.size, 0, none⟩) (by simp)).trans hc0
      go_simp
      try rfl
    try simp only [Act.put, List.setIfInBounds_toArray, List.set_cons_zero, List.set_cons_succ]
    refine anyH_forget (F := (fun W => Below (w.heap.size + 1) (w.alloc (.cells #[.int .i64 2, .int .i64 size, .int .u32 addr, .bool idx, .int .u32 data, .int .i64 to, .int .i64 k, .int .i64 ix, .int .i64 wo, .int .i64 li, .bool on, .int .i64 rw, .int .u32 rf, .int .u32 rt, .bool rd, .bool wr, .int .i64 rk, .bool lk] 33)) W ∧ W.heap[w.heap.size + 1]? = some (.cells #[.string ⟨#[115, 116, 111, 114, 101]⟩, .func (.func 106) #[] #[]] 83))) ⟨hS, setRow_heap _ _ _ _ _ _ (by (try simp only [alloc_drew, heap_drew]; first | exact heap_alloc_new _ _ | exact hp1 _ _ _ | exact hp2 _ _ _ _ | exact hp3 _ _ _ _ _ | exact hq1 _ _ _ | exact hq2 _ _ _ _ | exact hq3 _ _ _ _ _ | exact hr2 _ _ _ _ | exact hr3 _ _ _ _ _ | (simp; done)))⟩ ?_
    rintro w5 ⟨hB5, hr5⟩
    refine wpAnyH_done (by kernel_rfl) ?_ _
    have hrow := (hB5.block w.heap.size (by omega)).trans hcl
    have hsz := hB5.size
    simp at hsz
    have hc5 := rowc hr5 1
    simp only [List.getElem?_cons_succ, List.getElem?_cons_zero] at hc5
    clear hS hr5 hc0 hcl
    go_wp2_with (first | (go_at_call 106; (with_reducible refine (shStore_any 2 size addr data to k ix wo li rw rf rt rk idx on rd wr lk _ hdat).mono ?_); rintro e w6 ⟨rfl, hb6⟩) | ((with_reducible refine wpl_load 33 _ rfl ?_ w.heap.size 0 ?_ _ _ (CellsAt.of_block hrow) Tryz.underlying33 rfl (by kernel_rfl) ?_); (· rfl); (· rfl)))
    go_ret
    exact ⟨rfl, ((Below.refl _ _).alloc (Nat.le_refl _) _).trans ((hB5.mono (by omega)).trans (hb6.mono (by omega)))⟩
set_option maxRecDepth 100000 in
set_option maxHeartbeats 1000000 in
theorem instr_3 (size addr data to k ix wo li rw rf rt rk : Int) (idx on rd wr lk : Bool) (w : World) :
    Calls Tryz.prog 15 #[.agg #[.int .i64 3, .int .i64 size, .int .u32 addr, .bool idx, .int .u32 data, .int .i64 to, .int .i64 k, .int .i64 ix, .int .i64 wo, .int .i64 li, .bool on, .int .i64 rw, .int .u32 rf, .int .u32 rt, .bool rd, .bool wr, .int .i64 rk, .bool lk]] w fun e w' => e = .returned (.bool ((size == 1 || (size == 2 || size == 4)) && insNone 0 0 false data to ⟨k, ix, wo, li, ⟨on, rw, rf, rt, rd, wr, rk, lk⟩⟩)) ∧ Below w.heap.size w w' := by
  have hc0 : (w.alloc (.cells #[.int .i64 3, .int .i64 size, .int .u32 addr, .bool idx, .int .u32 data, .int .i64 to, .int .i64 k, .int .i64 ix, .int .i64 wo, .int .i64 li, .bool on, .int .i64 rw, .int .u32 rf, .int .u32 rt, .bool rd, .bool wr, .int .i64 rk, .bool lk] 33)).cell? ⟨w.heap.size, 0, none⟩ = some (.int .i64 3) := by simp
  have hcl : (w.alloc (.cells #[.int .i64 3, .int .i64 size, .int .u32 addr, .bool idx, .int .u32 data, .int .i64 to, .int .i64 k, .int .i64 ix, .int .i64 wo, .int .i64 li, .bool on, .int .i64 rw, .int .u32 rf, .int .u32 rt, .bool rd, .bool wr, .int .i64 rk, .bool lk] 33)).heap[w.heap.size]? = some (.cells #[.int .i64 3, .int .i64 size, .int .u32 addr, .bool idx, .int .u32 data, .int .i64 to, .int .i64 k, .int .i64 ix, .int .i64 wo, .int .i64 li, .bool on, .int .i64 rw, .int .u32 rf, .int .u32 rt, .bool rd, .bool wr, .int .i64 rk, .bool lk] 33) := heap_alloc_new _ _
  go_enter Tryz.func15, Tryz.ntmps15
  go_wp2_with fail
  refine region_start (S := (fun W => Below (w.heap.size + 1) (w.alloc (.cells #[.int .i64 3, .int .i64 size, .int .u32 addr, .bool idx, .int .u32 data, .int .i64 to, .int .i64 k, .int .i64 ix, .int .i64 wo, .int .i64 li, .bool on, .int .i64 rw, .int .u32 rf, .int .u32 rt, .bool rd, .bool wr, .int .i64 rk, .bool lk] 33)) W)) 10 rfl #[false, false, false, false, false, false, false, false, false, false] rfl (by kernel_rfl) ?_
  refine region_s ?_ ?_
  · (show Below _ _ _; repeat (first | exact Below.refl _ _ | assumption | refine Below.drew ?_ | refine Below.alloc ?_ (by first | omega | (simp; done) | (simp; omega) | (simp [World.setCell]; omega)) _ | refine Below.setCell ?_ (by first | omega | (simp; done) | (simp; omega) | (simp [World.setCell]; omega)) _ | refine below_setRow ?_ (by first | omega | (simp; done) | (simp; omega) | (simp [World.setCell]; omega)) _ | (refine Below.trans ?_ (Below.mono (by assumption) (by first | omega | (simp; done) | (simp; omega) | (simp [World.setCell]; omega))))))
  intro hS
  refine region_take (i := 1) (oi := ⟨(some 7), (Op.fieldAddr 33 (Operand.tmp 1) 0), 0, _, _, none⟩) (v := ?_) #[false, true, false, false, false, false, false, false, false, false] rfl (by kernel_rfl) (by kernel_rfl) (by kernel_rfl) (fun _ _ _ h => h) hS ?_ rfl ?_
  rotate_left
  · refine Or.inl ⟨rfl, fun W hW => ?_⟩
    dsimp only at hW
    have hx0 := (hW.cell (p := ⟨w.heap.size, 0, none⟩) (by simp)).trans hc0
    go_simp
    try rfl
  try simp only [Act.put, List.setIfInBounds_toArray, List.set_cons_zero, List.set_cons_succ]
  refine region_take (i := 2) (oi := ⟨(some 8), (Op.load 23 (Operand.tmp 7)), 23, _, _, none⟩) (v := ?_) #[false, true, true, false, false, false, false, false, false, false] rfl (by kernel_rfl) (by kernel_rfl) (by kernel_rfl) (fun _ _ _ h => h) hS ?_ rfl ?_
  rotate_left
  · refine Or.inl ⟨rfl, fun W hW => ?_⟩
    dsimp only at hW
    have hx0 := (hW.cell (p := ⟨w.heap.size, 0, none⟩) (by simp)).trans hc0
    go_simp
    try rfl
  try simp only [Act.put, List.setIfInBounds_toArray, List.set_cons_zero, List.set_cons_succ]
  refine region_two (i := 0) (j := 7) (oi := ⟨(some 6), (Op.call { callee := (Callee.value (Operand.func 45)), args := #[], argTypes := #[] }), 85, _, _, none⟩) (oj := ⟨(some 3), (Op.alloc 83), 0, _, _, none⟩) #[true, true, true, false, false, false, false, false, false, false] #[false, true, true, false, false, false, false, true, false, false] rfl rfl (by kernel_rfl) rfl rfl rfl rfl ?_ ?_
  · intro K hK
    go_simp; refine (mapKinds_any _).mono ?_; rintro e w1 ⟨rfl, rfl⟩
    refine hK _ _ ⟨?_, fun hS => ?_⟩
    · (show Below _ _ _; repeat (first | exact Below.refl _ _ | assumption | refine Below.drew ?_ | refine Below.alloc ?_ (by first | omega | (simp; done) | (simp; omega) | (simp [World.setCell]; omega)) _ | refine Below.setCell ?_ (by first | omega | (simp; done) | (simp; omega) | (simp [World.setCell]; omega)) _ | refine below_setRow ?_ (by first | omega | (simp; done) | (simp; omega) | (simp [World.setCell]; omega)) _ | (refine Below.trans ?_ (Below.mono (by assumption) (by first | omega | (simp; done) | (simp; omega) | (simp [World.setCell]; omega))))))
    try simp only [Act.put, List.setIfInBounds_toArray, List.set_cons_zero, List.set_cons_succ]
    refine region_two (i := 3) (j := 7) (oi := ⟨(some 9), (Op.lookup 85 (Operand.tmp 6) (Operand.tmp 8) true), 84, _, _, none⟩) (oj := ⟨(some 3), (Op.alloc 83), 0, _, _, none⟩) #[true, true, true, true, false, false, false, false, false, false] #[true, true, true, false, false, false, false, true, false, false] rfl rfl (by kernel_rfl) rfl rfl rfl rfl ?_ ?_
    · intro K hK
      refine wp_lookK _ _ 3 (kindV [112, 117, 116] 105) 2 _ rfl rfl rfl rfl ?_ ?_; (· (try simp only [alloc_drew, heap_drew]; first | exact heap_alloc_new _ _ | exact hp1 _ _ _ | exact hp2 _ _ _ _ | exact hp3 _ _ _ _ _ | exact hq1 _ _ _ | exact hq2 _ _ _ _ | exact hq3 _ _ _ _ _ | exact hr2 _ _ _ _ | exact hr3 _ _ _ _ _ | (simp; done)))
      refine hK _ _ ⟨?_, fun hS => ?_⟩
      · (show Below _ _ _; repeat (first | exact Below.refl _ _ | assumption | refine Below.drew ?_ | refine Below.alloc ?_ (by first | omega | (simp; done) | (simp; omega) | (simp [World.setCell]; omega)) _ | refine Below.setCell ?_ (by first | omega | (simp; done) | (simp; omega) | (simp [World.setCell]; omega)) _ | refine below_setRow ?_ (by first | omega | (simp; done) | (simp; omega) | (simp [World.setCell]; omega)) _ | (refine Below.trans ?_ (Below.mono (by assumption) (by first | omega | (simp; done) | (simp; omega) | (simp [World.setCell]; omega))))))
      try simp only [Act.put, List.setIfInBounds_toArray, List.set_cons_zero, List.set_cons_succ]
      refine region_take (i := 4) (oi := ⟨(some 5), (Op.move (Operand.tmp 9)), 84, _, _, none⟩) (v := ?_) #[true, true, true, true, true, false, false, false, false, false] rfl (by kernel_rfl) (by kernel_rfl) (by kernel_rfl) (fun _ _ _ h => h) hS ?_ rfl ?_
      rotate_left
      · refine Or.inl ⟨rfl, fun W hW => ?_⟩
        dsimp only at hW
        have hx0 := (hW.cell (p := ⟨w.heap.size, 0, none⟩) (by simp)).trans hc0
        go_simp
        try rfl
      try simp only [Act.put, List.setIfInBounds_toArray, List.set_cons_zero, List.set_cons_succ]
      refine region_take (i := 5) (oi := ⟨(some 10), (Op.extract (Operand.tmp 5) 0), 83, _, _, none⟩) (v := ?_) #[true, true, true, true, true, true, false, false, false, false] rfl (by kernel_rfl) (by kernel_rfl) (by kernel_rfl) (fun _ _ _ h => h) hS ?_ rfl ?_
      rotate_left
      · refine Or.inl ⟨rfl, fun W hW => ?_⟩
        dsimp only at hW
        have hx0 := (hW.cell (p := ⟨w.heap.size, 0, none⟩) (by simp)).trans hc0
        go_simp
        try rfl
      try simp only [Act.put, List.setIfInBounds_toArray, List.set_cons_zero, List.set_cons_succ]
      refine region_take (i := 6) (oi := ⟨(some 11), (Op.extract (Operand.tmp 5) 1), 4, _, _, none⟩) (v := ?_) #[true, true, true, true, true, true, true, false, false, false] rfl (by kernel_rfl) (by kernel_rfl) (by kernel_rfl) (fun _ _ _ h => h) hS ?_ rfl ?_
      rotate_left
      · refine Or.inl ⟨rfl, fun W hW => ?_⟩
        dsimp only at hW
        have hx0 := (hW.cell (p := ⟨w.heap.size, 0, none⟩) (by simp)).trans hc0
        go_simp
        try rfl
      try simp only [Act.put, List.setIfInBounds_toArray, List.set_cons_zero, List.set_cons_succ]
      refine region_op (i := 7) (oi := ⟨(some 3), (Op.alloc 83), 0, _, _, none⟩) #[true, true, true, true, true, true, true, true, false, false] rfl (by kernel_rfl) rfl rfl ?_
      intro K hK
      go_simp
      refine hK _ _ ⟨?_, fun hS => ?_⟩
      · (show Below _ _ _; repeat (first | exact Below.refl _ _ | assumption | refine Below.drew ?_ | refine Below.alloc ?_ (by first | omega | (simp; done) | (simp; omega) | (simp [World.setCell]; omega)) _ | refine Below.setCell ?_ (by first | omega | (simp; done) | (simp; omega) | (simp [World.setCell]; omega)) _ | refine below_setRow ?_ (by first | omega | (simp; done) | (simp; omega) | (simp [World.setCell]; omega)) _ | (refine Below.trans ?_ (Below.mono (by assumption) (by first | omega | (simp; done) | (simp; omega) | (simp [World.setCell]; omega))))))
      try simp only [Act.put, List.setIfInBounds_toArray, List.set_cons_zero, List.set_cons_succ]
      refine region_op (i := 8) (oi := ⟨none, (Op.store 83 (Operand.tmp 3) (Operand.tmp 10)), 0, _, _, none⟩) #[true, true, true, true, true, true, true, true, true, false] rfl (by kernel_rfl) rfl rfl ?_
      intro K hK
      refine wp_store 83 _ _ rfl _ 0 83 [.string ⟨#[]⟩, .nilFunc] [.string ⟨#[112, 117, 116]⟩, .func (.func 105) #[] #[]] ?_ rfl rfl (by kernel_rfl) (by simp) rfl [.string ⟨#[112, 117, 116]⟩, .func (.func 105) #[] #[]] rfl ?_; (· (try simp only [alloc_drew, heap_drew]; first | exact heap_alloc_new _ _ | exact hp1 _ _ _ | exact hp2 _ _ _ _ | exact hp3 _ _ _ _ _ | exact hq1 _ _ _ | exact hq2 _ _ _ _ | exact hq3 _ _ _ _ _ | exact hr2 _ _ _ _ | exact hr3 _ _ _ _ _ | (simp; done)))
      refine hK _ _ ⟨?_, fun hS => ?_⟩
      · (show Below _ _ _; repeat (first | exact Below.refl _ _ | assumption | refine Below.drew ?_ | refine Below.alloc ?_ (by first | omega | (simp; done) | (simp; omega) | (simp [World.setCell]; omega)) _ | refine Below.setCell ?_ (by first | omega | (simp; done) | (simp; omega) | (simp [World.setCell]; omega)) _ | refine below_setRow ?_ (by first | omega | (simp; done) | (simp; omega) | (simp [World.setCell]; omega)) _ | (refine Below.trans ?_ (Below.mono (by assumption) (by first | omega | (simp; done) | (simp; omega) | (simp [World.setCell]; omega))))))
      try simp only [Act.put, List.setIfInBounds_toArray, List.set_cons_zero, List.set_cons_succ]
      refine region_take (i := 9) (oi := ⟨(some 4), (Op.assign (Operand.tmp 11)), 4, _, _, none⟩) (v := ?_) #[true, true, true, true, true, true, true, true, true, true] rfl (by kernel_rfl) (by kernel_rfl) (by kernel_rfl) (fun _ _ _ h => h) hS ?_ rfl ?_
      rotate_left
      · refine Or.inl ⟨rfl, fun W hW => ?_⟩
        dsimp only at hW
        have hx0 := (hW.cell (p := ⟨w.heap.size, 0, none⟩) (by simp)).trans hc0
        go_simp
        try rfl
      try simp only [Act.put, List.setIfInBounds_toArray, List.set_cons_zero, List.set_cons_succ]
      refine anyH_forget (F := (fun W => Below (w.heap.size + 1) (w.alloc (.cells #[.int .i64 3, .int .i64 size, .int .u32 addr, .bool idx, .int .u32 data, .int .i64 to, .int .i64 k, .int .i64 ix, .int .i64 wo, .int .i64 li, .bool on, .int .i64 rw, .int .u32 rf, .int .u32 rt, .bool rd, .bool wr, .int .i64 rk, .bool lk] 33)) W ∧ W.heap[w.heap.size + 1 + 1]? = some (.cells #[.string ⟨#[112, 117, 116]⟩, .func (.func 105) #[] #[]] 83))) ⟨hS, setRow_heap _ _ _ _ _ _ (by (try simp only [alloc_drew, heap_drew]; first | exact heap_alloc_new _ _ | exact hp1 _ _ _ | exact hp2 _ _ _ _ | exact hp3 _ _ _ _ _ | exact hq1 _ _ _ | exact hq2 _ _ _ _ | exact hq3 _ _ _ _ _ | exact hr2 _ _ _ _ | exact hr3 _ _ _ _ _ | (simp; done)))⟩ ?_
      rintro w5 ⟨hB5, hr5⟩
      refine wpAnyH_done (by kernel_rfl) ?_ _
      have hrow := (hB5.block w.heap.size (by omega)).trans hcl
      have hsz := hB5.size
      simp at hsz
      have hc5 := rowc hr5 1
      simp only [List.getElem?_cons_succ, List.getElem?_cons_zero] at hc5
      clear hS hr5 hc0 hcl
      go_wp2_with (first | (go_at_call 105; (with_reducible refine (shLoad_any 3 size addr data to k ix wo li rw rf rt rk idx on rd wr lk _).mono ?_); rintro e w6 ⟨rfl, hb6⟩) | ((with_reducible refine wpl_load 33 _ rfl ?_ w.heap.size 0 ?_ _ _ (CellsAt.of_block hrow) Tryz.underlying33 rfl (by kernel_rfl) ?_); (· rfl); (· rfl)))
      go_ret
      exact ⟨rfl, ((Below.refl _ _).alloc (Nat.le_refl _) _).trans ((hB5.mono (by omega)).trans (hb6.mono (by omega)))⟩
    · intro K hK
      go_simp
      refine hK _ _ ⟨?_, fun hS => ?_⟩
      · (show Below _ _ _; repeat (first | exact Below.refl _ _ | assumption | refine Below.drew ?_ | refine Below.alloc ?_ (by first | omega | (simp; done) | (simp; omega) | (simp [World.setCell]; omega)) _ | refine Below.setCell ?_ (by first | omega | (simp; done) | (simp; omega) | (simp [World.setCell]; omega)) _ | refine below_setRow ?_ (by first | omega | (simp; done) | (simp; omega) | (simp [World.setCell]; omega)) _ | (refine Below.trans ?_ (Below.mono (by assumption) (by first | omega | (simp; done) | (simp; omega) | (simp [World.setCell]; omega))))))
      try simp only [Act.put, List.setIfInBounds_toArray, List.set_cons_zero, List.set_cons_succ]
      refine region_op (i := 3) (oi := ⟨(some 9), (Op.lookup 85 (Operand.tmp 6) (Operand.tmp 8) true), 84, _, _, none⟩) #[true, true, true, true, false, false, false, true, false, false] rfl (by kernel_rfl) rfl rfl ?_
      intro K hK
      refine wp_lookK _ _ 3 (kindV [112, 117, 116] 105) 2 _ rfl rfl rfl rfl ?_ ?_; (· (try simp only [alloc_drew, heap_drew]; first | exact heap_alloc_new _ _ | exact hp1 _ _ _ | exact hp2 _ _ _ _ | exact hp3 _ _ _ _ _ | exact hq1 _ _ _ | exact hq2 _ _ _ _ | exact hq3 _ _ _ _ _ | exact hr2 _ _ _ _ | exact hr3 _ _ _ _ _ | (simp; done)))
      refine hK _ _ ⟨?_, fun hS => ?_⟩
      · (show Below _ _ _; repeat (first | exact Below.refl _ _ | assumption | refine Below.drew ?_ | refine Below.alloc ?_ (by first | omega | (simp; done) | (simp; omega) | (simp [World.setCell]; omega)) _ | refine Below.setCell ?_ (by first | omega | (simp; done) | (simp; omega) | (simp [World.setCell]; omega)) _ | refine below_setRow ?_ (by first | omega | (simp; done) | (simp; omega) | (simp [World.setCell]; omega)) _ | (refine Below.trans ?_ (Below.mono (by assumption) (by first | omega | (simp; done) | (simp; omega) | (simp [World.setCell]; omega))))))
      try simp only [Act.put, List.setIfInBounds_toArray, List.set_cons_zero, List.set_cons_succ]
      refine region_take (i := 4) (oi := ⟨(some 5), (Op.move (Operand.tmp 9)), 84, _, _, none⟩) (v := ?_) #[true, true, true, true, true, false, false, true, false, false] rfl (by kernel_rfl) (by kernel_rfl) (by kernel_rfl) (fun _ _ _ h => h) hS ?_ rfl ?_
      rotate_left
      · refine Or.inl ⟨rfl, fun W hW => ?_⟩
        dsimp only at hW
        have hx0 := (hW.cell (p := ⟨w.heap.size, 0, none⟩) (by simp)).trans hc0
        go_simp
        try rfl
      try simp only [Act.put, List.setIfInBounds_toArray, List.set_cons_zero, List.set_cons_succ]
      refine region_take (i := 5) (oi := ⟨(some 10), (Op.extract (Operand.tmp 5) 0), 83, _, _, none⟩) (v := ?_) #[true, true, true, true, true, true, false, true, false, false] rfl (by kernel_rfl) (by kernel_rfl) (by kernel_rfl) (fun _ _ _ h => h) hS ?_ rfl ?_
      rotate_left
      · refine Or.inl ⟨rfl, fun W hW => ?_⟩
        dsimp only at hW
        have hx0 := (hW.cell (p := ⟨w.heap.size, 0, none⟩) (by simp)).trans hc0
        go_simp
        try rfl
      try simp only [Act.put, List.setIfInBounds_toArray, List.set_cons_zero, List.set_cons_succ]
      refine region_take (i := 6) (oi := ⟨(some 11), (Op.extract (Operand.tmp 5) 1), 4, _, _, none⟩) (v := ?_) #[true, true, true, true, true, true, true, true, false, false] rfl (by kernel_rfl) (by kernel_rfl) (by kernel_rfl) (fun _ _ _ h => h) hS ?_ rfl ?_
      rotate_left
      · refine Or.inl ⟨rfl, fun W hW => ?_⟩
        dsimp only at hW
        have hx0 := (hW.cell (p := ⟨w.heap.size, 0, none⟩) (by simp)).trans hc0
        go_simp
        try rfl
      try simp only [Act.put, List.setIfInBounds_toArray, List.set_cons_zero, List.set_cons_succ]
      refine region_op (i := 8) (oi := ⟨none, (Op.store 83 (Operand.tmp 3) (Operand.tmp 10)), 0, _, _, none⟩) #[true, true, true, true, true, true, true, true, true, false] rfl (by kernel_rfl) rfl rfl ?_
      intro K hK
      refine wp_store 83 _ _ rfl _ 0 83 [.string ⟨#[]⟩, .nilFunc] [.string ⟨#[112, 117, 116]⟩, .func (.func 105) #[] #[]] ?_ rfl rfl (by kernel_rfl) (by simp) rfl [.string ⟨#[112, 117, 116]⟩, .func (.func 105) #[] #[]] rfl ?_; (· (try simp only [alloc_drew, heap_drew]; first | exact heap_alloc_new _ _ | exact hp1 _ _ _ | exact hp2 _ _ _ _ | exact hp3 _ _ _ _ _ | exact hq1 _ _ _ | exact hq2 _ _ _ _ | exact hq3 _ _ _ _ _ | exact hr2 _ _ _ _ | exact hr3 _ _ _ _ _ | (simp; done)))
      refine hK _ _ ⟨?_, fun hS => ?_⟩
      · (show Below _ _ _; repeat (first | exact Below.refl _ _ | assumption | refine Below.drew ?_ | refine Below.alloc ?_ (by first | omega | (simp; done) | (simp; omega) | (simp [World.setCell]; omega)) _ | refine Below.setCell ?_ (by first | omega | (simp; done) | (simp; omega) | (simp [World.setCell]; omega)) _ | refine below_setRow ?_ (by first | omega | (simp; done) | (simp; omega) | (simp [World.setCell]; omega)) _ | (refine Below.trans ?_ (Below.mono (by assumption) (by first | omega | (simp; done) | (simp; omega) | (simp [World.setCell]; omega))))))
      try simp only [Act.put, List.setIfInBounds_toArray, List.set_cons_zero, List.set_cons_succ]
      refine region_take (i := 9) (oi := ⟨(some 4), (Op.assign (Operand.tmp 11)), 4, _, _, none⟩) (v := ?_) #[true, true, true, true, true, true, true, true, true, true] rfl (by kernel_rfl) (by kernel_rfl) (by kernel_rfl) (fun _ _ _ h => h) hS ?_ rfl ?_
      rotate_left
      · refine Or.inl ⟨rfl, fun W hW => ?_⟩
        dsimp only at hW
        have hx0 := (hW.cell (p := ⟨w.heap.size, 0, none⟩) (by simp)).trans hc0
        go_simp
        try rfl
      try simp only [Act.put, List.setIfInBounds_toArray, List.set_cons_zero, List.set_cons_succ]
      refine anyH_forget (F := (fun W => Below (w.heap.size + 1) (w.alloc (.cells #[.int .i64 3, .int .i64 size, .int .u32 addr, .bool idx, .int .u32 data, .int .i64 to, .int .i64 k, .int .i64 ix, .int .i64 wo, .int .i64 li, .bool on, .int .i64 rw, .int .u32 rf, .int .u32 rt, .bool rd, .bool wr, .int .i64 rk, .bool lk] 33)) W ∧ W.heap[w.heap.size + 1 + 1]? = some (.cells #[.string ⟨#[112, 117, 116]⟩, .func (.func 105) #[] #[]] 83))) ⟨hS, setRow_heap _ _ _ _ _ _ (by (try simp only [alloc_drew, heap_drew]; first | exact heap_alloc_new _ _ | exact hp1 _ _ _ | exact hp2 _ _ _ _ | exact hp3 _ _ _ _ _ | exact hq1 _ _ _ | exact hq2 _ _ _ _ | exact hq3 _ _ _ _ _ | exact hr2 _ _ _ _ | exact hr3 _ _ _ _ _ | (simp; done)))⟩ ?_
      rintro w5 ⟨hB5, hr5⟩
      refine wpAnyH_done (by kernel_rfl) ?_ _
      have hrow := (hB5.block w.heap.size (by omega)).trans hcl
      have hsz := hB5.size
      simp at hsz
      have hc5 := rowc hr5 1
      simp only [List.getElem?_cons_succ, List.getElem?_cons_zero] at hc5
      clear hS hr5 hc0 hcl
      go_wp2_with (first | (go_at_call 105; (with_reducible refine (shLoad_any 3 size addr data to k ix wo li rw rf rt rk idx on rd wr lk _).mono ?_); rintro e w6 ⟨rfl, hb6⟩) | ((with_reducible refine wpl_load 33 _ rfl ?_ w.heap.size 0 ?_ _ _ (CellsAt.of_block hrow) Tryz.underlying33 rfl (by kernel_rfl) ?_); (· rfl); (· rfl)))
      go_ret
      exact ⟨rfl, ((Below.refl _ _).alloc (Nat.le_refl _) _).trans ((hB5.mono (by omega)).trans (hb6.mono (by omega)))⟩
  · intro K hK
    go_simp
    refine hK _ _ ⟨?_, fun hS => ?_⟩
    · (show Below _ _ _; repeat (first | exact Below.refl _ _ | assumption | refine Below.drew ?_ | refine Below.alloc ?_ (by first | omega | (simp; done) | (simp; omega) | (simp [World.setCell]; omega)) _ | refine Below.setCell ?_ (by first | omega | (simp; done) | (simp; omega) | (simp [World.setCell]; omega)) _ | refine below_setRow ?_ (by first | omega | (simp; done) | (simp; omega) | (simp [World.setCell]; omega)) _ | (refine Below.trans ?_ (Below.mono (by assumption) (by first | omega | (simp; done) | (simp; omega) | (simp [World.setCell]; omega))))))
    try simp only [Act.put, List.setIfInBounds_toArray, List.set_cons_zero, List.set_cons_succ]
    refine region_op (i := 0) (oi := ⟨(some 6), (Op.call { callee := (Callee.value (Operand.func 45)), args := #[], argTypes := #[] }), 85, _, _, none⟩) #[true, true, true, false, false, false, false, true, false, false] rfl (by kernel_rfl) rfl rfl ?_
    intro K hK
    go_simp; refine (mapKinds_any _).mono ?_; rintro e w1 ⟨rfl, rfl⟩
    refine hK _ _ ⟨?_, fun hS => ?_⟩
    · (show Below _ _ _; repeat (first | exact Below.refl _ _ | assumption | refine Below.drew ?_ | refine Below.alloc ?_ (by first | omega | (simp; done) | (simp; omega) | (simp [World.setCell]; omega)) _ | refine Below.setCell ?_ (by first | omega | (simp; done) | (simp; omega) | (simp [World.setCell]; omega)) _ | refine below_setRow ?_ (by first | omega | (simp; done) | (simp; omega) | (simp [World.setCell]; omega)) _ | (refine Below.trans ?_ (Below.mono (by assumption) (by first | omega | (simp; done) | (simp; omega) | (simp [World.setCell]; omega))))))
    try simp only [Act.put, List.setIfInBounds_toArray, List.set_cons_zero, List.set_cons_succ]
    refine region_op (i := 3) (oi := ⟨(some 9), (Op.lookup 85 (Operand.tmp 6) (Operand.tmp 8) true), 84, _, _, none⟩) #[true, true, true, true, false, false, false, true, false, false] rfl (by kernel_rfl) rfl rfl ?_
    intro K hK
    refine wp_lookK _ _ 3 (kindV [112, 117, 116] 105) 2 _ rfl rfl rfl rfl ?_ ?_; (· (try simp only [alloc_drew, heap_drew]; first | exact heap_alloc_new _ _ | exact hp1 _ _ _ | exact hp2 _ _ _ _ | exact hp3 _ _ _ _ _ | exact hq1 _ _ _ | exact hq2 _ _ _ _ | exact hq3 _ _ _ _ _ | exact hr2 _ _ _ _ | exact hr3 _ _ _ _ _ | (simp; done)))
    refine hK _ _ ⟨?_, fun hS => ?_⟩
    · (show Below _ _ _; repeat (first | exact Below.refl _ _ | assumption | refine Below.drew ?_ | refine Below.alloc ?_ (by first | omega | (simp; done) | (simp; omega) | (simp [World.setCell]; omega)) _ | refine Below.setCell ?_ (by first | omega | (simp; done) | (simp; omega) | (simp [World.setCell]; omega)) _ | refine below_setRow ?_ (by first | omega | (simp; done) | (simp; omega) | (simp [World.setCell]; omega)) _ | (refine Below.trans ?_ (Below.mono (by assumption) (by first | omega | (simp; done) | (simp; omega) | (simp [World.setCell]; omega))))))
    try simp only [Act.put, List.setIfInBounds_toArray, List.set_cons_zero, List.set_cons_succ]
    refine region_take (i := 4) (oi := ⟨(some 5), (Op.move (Operand.tmp 9)), 84, _, _, none⟩) (v := ?_) #[true, true, true, true, true, false, false, true, false, false] rfl (by kernel_rfl) (by kernel_rfl) (by kernel_rfl) (fun _ _ _ h => h) hS ?_ rfl ?_
    rotate_left
    · refine Or.inl ⟨rfl, fun W hW => ?_⟩
      dsimp only at hW
      have hx0 := (hW.cell (p := ⟨w.heap.size, 0, none⟩) (by simp)).trans hc0
      go_simp
      try rfl
    try simp only [Act.put, List.setIfInBounds_toArray, List.set_cons_zero, List.set_cons_succ]
    refine region_take (i := 5) (oi := ⟨(some 10), (Op.extract (Operand.tmp 5) 0), 83, _, _, none⟩) (v := ?_) #[true, true, true, true, true, true, false, true, false, false] rfl (by kernel_rfl) (by kernel_rfl) (by kernel_rfl) (fun _ _ _ h => h) hS ?_ rfl ?_
    rotate_left
    · refine Or.inl ⟨rfl, fun W hW => ?_⟩
      dsimp only at hW
      have hx0 := (hW.cell (p := ⟨w.heap.size, 0, none⟩) (by simp)).trans hc0
      go_simp
      try rfl
    try simp only [Act.put, List.setIfInBounds_toArray, List.set_cons_zero, List.set_cons_succ]
    refine region_take (i := 6) (oi := ⟨(some 11), (Op.extract (Operand.tmp 5) 1), 4, _, _, none⟩) (v := ?_) #[true, true, true, true, true, true, true, true, false, false] rfl (by kernel_rfl) (by kernel_rfl) (by kernel_rfl) (fun _ _ _ h => h) hS ?_ rfl ?_
    rotate_left
    · refine Or.inl ⟨rfl, fun W hW => ?_⟩
      dsimp only at hW
      have hx0 := (hW.cell (p := ⟨w.heap.size, 0, none⟩) (by simp)).trans hc0
      go_simp
      try rfl
    try simp only [Act.put, List.setIfInBounds_toArray, List.set_cons_zero, List.set_cons_succ]
    refine region_op (i := 8) (oi := ⟨none, (Op.store 83 (Operand.tmp 3) (Operand.tmp 10)), 0, _, _, none⟩) #[true, true, true, true, true, true, true, true, true, false] rfl (by kernel_rfl) rfl rfl ?_
    intro K hK
    refine wp_store 83 _ _ rfl _ 0 83 [.string ⟨#[]⟩, .nilFunc] [.string ⟨#[112, 117, 116]⟩, .func (.func 105) #[] #[]] ?_ rfl rfl (by kernel_rfl) (by simp) rfl [.string ⟨#[112, 117, 116]⟩, .func (.func 105) #[] #[]] rfl ?_; (· (try simp only [alloc_drew, heap_drew]; first | exact heap_alloc_new _ _ | exact hp1 _ _ _ | exact hp2 _ _ _ _ | exact hp3 _ _ _ _ _ | exact hq1 _ _ _ | exact hq2 _ _ _ _ | exact hq3 _ _ _ _ _ | exact hr2 _ _ _ _ | exact hr3 _ _ _ _ _ | (simp; done)))
    refine hK _ _ ⟨?_, fun hS => ?_⟩
    · (show Below _ _ _; repeat (first | exact Below.refl _ _ | assumption | refine Below.drew ?_ | refine Below.alloc ?_ (by first | omega | (simp; done) | (simp; omega) | (simp [World.setCell]; omega)) _ | refine Below.setCell ?_ (by first | omega | (simp; done) | (simp; omega) | (simp [World.setCell]; omega)) _ | refine below_setRow ?_ (by first | omega | (simp; done) | (simp; omega) | (simp [World.setCell]; omega)) _ | (refine Below.trans ?_ (Below.mono (by assumption) (by first | omega | (simp; done) | (simp; omega) | (simp [World.setCell]; omega))))))
    try simp only [Act.put, List.setIfInBounds_toArray, List.set_cons_zero, List.set_cons_succ]
    refine region_take (i := 9) (oi := ⟨(some 4), (Op.assign (Operand.tmp 11)), 4, _, _, none⟩) (v := ?_) #[true, true, true, true, true, true, true, true, true, true] rfl (by kernel_rfl) (by kernel_rfl) (by kernel_rfl) (fun _ _ _ h => h) hS ?_ rfl ?_
    rotate_left
    · refine Or.inl ⟨rfl, fun W hW => ?_⟩
      dsimp only at hW
      have hx0 := (hW.cell (p := ⟨w.heap.size, 0, none⟩) (by simp)).trans hc0
      go_simp
      try rfl
    try simp only [Act.put, List.setIfInBounds_toArray, List.set_cons_zero, List.set_cons_succ]
    refine anyH_forget (F := (fun W => Below (w.heap.size + 1) (w.alloc (.cells #[.int .i64 3, .int .i64 size, .int .u32 addr, .bool idx, .int .u32 data, .int .i64 to, .int .i64 k, .int .i64 ix, .int .i64 wo, .int .i64 li, .bool on, .int .i64 rw, .int .u32 rf, .int .u32 rt, .bool rd, .bool wr, .int .i64 rk, .bool lk] 33)) W ∧ W.heap[w.heap.size + 1]? = some (.cells #[.string ⟨#[112, 117, 116]⟩, .func (.func 105) #[] #[]] 83))) ⟨hS, setRow_heap _ _ _ _ _ _ (by (try simp only [alloc_drew, heap_drew]; first | exact heap_alloc_new _ _ | exact hp1 _ _ _ | exact hp2 _ _ _ _ | exact hp3 _ _ _ _ _ | exact hq1 _ _ _ | exact hq2 _ _ _ _ | exact hq3 _ _ _ _ _ | exact hr2 _ _ _ _ | exact hr3 _ _ _ _ _ | (simp; done)))⟩ ?_
    rintro w5 ⟨hB5, hr5⟩
    refine wpAnyH_done (by kernel_rfl) ?_ _
    have hrow := (hB5.block w.heap.size (by omega)).trans hcl
    have hsz := hB5.size
    simp at hsz
    have hc5 := rowc hr5 1
    simp only [List.getElem?_cons_succ, List.getElem?_cons_zero] at hc5
    clear hS hr5 hc0 hcl
    go_wp2_with (first | (go_at_call 105; (with_reducible refine (shLoad_any 3 size addr data to k ix wo li rw rf rt rk idx on rd wr lk _).mono ?_); rintro e w6 ⟨rfl, hb6⟩) | ((with_reducible refine wpl_load 33 _ rfl ?_ w.heap.size 0 ?_ _ _ (CellsAt.of_block hrow) Tryz.underlying33 rfl (by kernel_rfl) ?_); (· rfl); (· rfl)))
    go_ret
    exact ⟨rfl, ((Below.refl _ _).alloc (Nat.le_refl _) _).trans ((hB5.mono (by omega)).trans (hb6.mono (by omega)))⟩
set_option maxRecDepth 100000 in
set_option maxHeartbeats 1000000 in
theorem instr_4 (size addr data to k ix wo li rw rf rt rk : Int) (idx on rd wr lk : Bool) (w : World) :
    Calls Tryz.prog 15 #[.agg #[.int .i64 4, .int .i64 size, .int .u32 addr, .bool idx, .int .u32 data, .int .i64 to, .int .i64 k, .int .i64 ix, .int .i64 wo, .int .i64 li, .bool on, .int .i64 rw, .int .u32 rf, .int .u32 rt, .bool rd, .bool wr, .int .i64 rk, .bool lk]] w fun e w' => e = .returned (.bool (insNone size addr idx data to ⟨k, ix, wo, li, ⟨on, rw, rf, rt, rd, wr, rk, lk⟩⟩)) ∧ Below w.heap.size w w' := by
  have hc0 : (w.alloc (.cells #[.int .i64 4, .int .i64 size, .int .u32 addr, .bool idx, .int .u32 data, .int .i64 to, .int .i64 k, .int .i64 ix, .int .i64 wo, .int .i64 li, .bool on, .int .i64 rw, .int .u32 rf, .int .u32 rt, .bool rd, .bool wr, .int .i64 rk, .bool lk] 33)).cell? ⟨w.heap.size, 0, none⟩ = some (.int .i64 4) := by simp
  have hcl : (w.alloc (.cells #[.int .i64 4, .int .i64 size, .int .u32 addr, .bool idx, .int .u32 data, .int .i64 to, .int .i64 k, .int .i64 ix, .int .i64 wo, .int .i64 li, .bool on, .int .i64 rw, .int .u32 rf, .int .u32 rt, .bool rd, .bool wr, .int .i64 rk, .bool lk] 33)).heap[w.heap.size]? = some (.cells #[.int .i64 4, .int .i64 size, .int .u32 addr, .bool idx, .int .u32 data, .int .i64 to, .int .i64 k, .int .i64 ix, .int .i64 wo, .int .i64 li, .bool on, .int .i64 rw, .int .u32 rf, .int .u32 rt, .bool rd, .bool wr, .int .i64 rk, .bool lk] 33) := heap_alloc_new _ _
  go_enter Tryz.func15, Tryz.ntmps15
  go_wp2_with fail
  refine region_start (S := (fun W => Below (w.heap.size + 1) (w.alloc (.cells #[.int .i64 4, .int .i64 size, .int .u32 addr, .bool idx, .int .u32 data, .int .i64 to, .int .i64 k, .int .i64 ix, .int .i64 wo, .int .i64 li, .bool on, .int .i64 rw, .int .u32 rf, .int .u32 rt, .bool rd, .bool wr, .int .i64 rk, .bool lk] 33)) W)) 10 rfl #[false, false, false, false, false, false, false, false, false, false] rfl (by kernel_rfl) ?_
  refine region_s ?_ ?_
  · (show Below _ _ _; repeat (first | exact Below.refl _ _ | assumption | refine Below.drew ?_ | refine Below.alloc ?_ (by first | omega | (simp; done) | (simp; omega) | (simp [World.setCell]; omega)) _ | refine Below.setCell ?_ (by first | omega | (simp; done) | (simp; omega) | (simp [World.setCell]; omega)) _ | refine below_setRow ?_ (by first | omega | (simp; done) | (simp; omega) | (simp [World.setCell]; omega)) _ | (refine Below.trans ?_ (Below.mono (by assumption) (by first | omega | (simp; done) | (simp; omega) | (simp [World.setCell]; omega))))))
  intro hS
  refine region_take (i := 1) (oi := ⟨(some 7), (Op.fieldAddr 33 (Operand.tmp 1) 0), 0, _, _, none⟩) (v := ?_) #[false, true, false, false, false, false, false, false, false, false] rfl (by kernel_rfl) (by kernel_rfl) (by kernel_rfl) (fun _ _ _ h => h) hS ?_ rfl ?_
  rotate_left
  · refine Or.inl ⟨rfl, fun W hW => ?_⟩
    dsimp only at hW
    have hx0 := (hW.cell (p := ⟨w.heap.size, 0, none⟩) (by simp)).trans hc0
    go_simp
    try rfl
  try simp only [Act.put, List.setIfInBounds_toArray, List.set_cons_zero, List.set_cons_succ]
  refine region_take (i := 2) (oi := ⟨(some 8), (Op.load 23 (Operand.tmp 7)), 23, _, _, none⟩) (v := ?_) #[false, true, true, false, false, false, false, false, false, false] rfl (by kernel_rfl) (by kernel_rfl) (by kernel_rfl) (fun _ _ _ h => h) hS ?_ rfl ?_
  rotate_left
  · refine Or.inl ⟨rfl, fun W hW => ?_⟩
    dsimp only at hW
    have hx0 := (hW.cell (p := ⟨w.heap.size, 0, none⟩) (by simp)).trans hc0
    go_simp
    try rfl
  try simp only [Act.put, List.setIfInBounds_toArray, List.set_cons_zero, List.set_cons_succ]
  refine region_two (i := 0) (j := 7) (oi := ⟨(some 6), (Op.call { callee := (Callee.value (Operand.func 45)), args := #[], argTypes := #[] }), 85, _, _, none⟩) (oj := ⟨(some 3), (Op.alloc 83), 0, _, _, none⟩) #[true, true, true, false, false, false, false, false, false, false] #[false, true, true, false, false, false, false, true, false, false] rfl rfl (by kernel_rfl) rfl rfl rfl rfl ?_ ?_
  · intro K hK
    go_simp; refine (mapKinds_any _).mono ?_; rintro e w1 ⟨rfl, rfl⟩
    refine hK _ _ ⟨?_, fun hS => ?_⟩
    · (show Below _ _ _; repeat (first | exact Below.refl _ _ | assumption | refine Below.drew ?_ | refine Below.alloc ?_ (by first | omega | (simp; done) | (simp; omega) | (simp [World.setCell]; omega)) _ | refine Below.setCell ?_ (by first | omega | (simp; done) | (simp; omega) | (simp [World.setCell]; omega)) _ | refine below_setRow ?_ (by first | omega | (simp; done) | (simp; omega) | (simp [World.setCell]; omega)) _ | (refine Below.trans ?_ (Below.mono (by assumption) (by first | omega | (simp; done) | (simp; omega) | (simp [World.setCell]; omega))))))
    try simp only [Act.put, List.setIfInBounds_toArray, List.set_cons_zero, List.set_cons_succ]
    refine region_two (i := 3) (j := 7) (oi := ⟨(some 9), (Op.lookup 85 (Operand.tmp 6) (Operand.tmp 8) true), 84, _, _, none⟩) (oj := ⟨(some 3), (Op.alloc 83), 0, _, _, none⟩) #[true, true, true, true, false, false, false, false, false, false] #[true, true, true, false, false, false, false, true, false, false] rfl rfl (by kernel_rfl) rfl rfl rfl rfl ?_ ?_
    · intro K hK
      refine wp_lookK _ _ 4 (kindV [119, 97, 105, 116] 107) 3 _ rfl rfl rfl rfl ?_ ?_; (· (try simp only [alloc_drew, heap_drew]; first | exact heap_alloc_new _ _ | exact hp1 _ _ _ | exact hp2 _ _ _ _ | exact hp3 _ _ _ _ _ | exact hq1 _ _ _ | exact hq2 _ _ _ _ | exact hq3 _ _ _ _ _ | exact hr2 _ _ _ _ | exact hr3 _ _ _ _ _ | (simp; done)))
      refine hK _ _ ⟨?_, fun hS => ?_⟩
      · (show Below _ _ _; repeat (first | exact Below.refl _ _ | assumption | refine Below.drew ?_ | refine Below.alloc ?_ (by first | omega | (simp; done) | (simp; omega) | (simp [World.setCell]; omega)) _ | refine Below.setCell ?_ (by first | omega | (simp; done) | (simp; omega) | (simp [World.setCell]; omega)) _ | refine below_setRow ?_ (by first | omega | (simp; done) | (simp; omega) | (simp [World.setCell]; omega)) _ | (refine Below.trans ?_ (Below.mono (by assumption) (by first | omega | (simp; done) | (simp; omega) | (simp [World.setCell]; omega))))))
      try simp only [Act.put, List.setIfInBounds_toArray, List.set_cons_zero, List.set_cons_succ]
      refine region_take (i := 4) (oi := ⟨(some 5), (Op.move (Operand.tmp 9)), 84, _, _, none⟩) (v := ?_) #[true, true, true, true, true, false, false, false, false, false] rfl (by kernel_rfl) (by kernel_rfl) (by kernel_rfl) (fun _ _ _ h => h) hS ?_ rfl ?_
      rotate_left
      · refine Or.inl ⟨rfl, fun W hW => ?_⟩
        dsimp only at hW
        have hx0 := (hW.cell (p := ⟨w.heap.size, 0, none⟩) (by simp)).trans hc0
        go_simp
        try rfl
      try simp only [Act.put, List.setIfInBounds_toArray, List.set_cons_zero, List.set_cons_succ]
      refine region_take (i := 5) (oi := ⟨(some 10), (Op.extract (Operand.tmp 5) 0), 83, _, _, none⟩) (v := ?_) #[true, true, true, true, true, true, false, false, false, false] rfl (by kernel_rfl) (by kernel_rfl) (by kernel_rfl) (fun _ _ _ h => h) hS ?_ rfl ?_
      rotate_left
      · refine Or.inl ⟨rfl, fun W hW => ?_⟩
        dsimp only at hW
        have hx0 := (hW.cell (p := ⟨w.heap.size, 0, none⟩) (by simp)).trans hc0
        go_simp
        try rfl
      try simp only [Act.put, List.setIfInBounds_toArray, List.set_cons_zero, List.set_cons_succ]
      refine region_take (i := 6) (oi := ⟨(some 11), (Op.extract (Operand.tmp 5) 1), 4, _, _, none⟩) (v := ?_) #[true, true, true, true, true, true, true, false, false, false] rfl (by kernel_rfl) (by kernel_rfl) (by kernel_rfl) (fun _ _ _ h => h) hS ?_ rfl ?_
      rotate_left
      · refine Or.inl ⟨rfl, fun W hW => ?_⟩
        dsimp only at hW
        have hx0 := (hW.cell (p := ⟨w.heap.size, 0, none⟩) (by simp)).trans hc0
        go_simp
        try rfl
      try simp only [Act.put, List.setIfInBounds_toArray, List.set_cons_zero, List.set_cons_succ]
      refine region_op (i := 7) (oi := ⟨(some 3), (Op.alloc 83), 0, _, _, none⟩) #[true, true, true, true, true, true, true, true, false, false] rfl (by kernel_rfl) rfl rfl ?_
      intro K hK
      go_simp
      refine hK _ _ ⟨?_, fun hS => ?_⟩
      · (show Below _ _ _; repeat (first | exact Below.refl _ _ | assumption | refine Below.drew ?_ | refine Below.alloc ?_ (by first | omega | (simp; done) | (simp; omega) | (simp [World.setCell]; omega)) _ | refine Below.setCell ?_ (by first | omega | (simp; done) | (simp; omega) | (simp [World.setCell]; omega)) _ | refine below_setRow ?_ (by first | omega | (simp; done) | (simp; omega) | (simp [World.setCell]; omega)) _ | (refine Below.trans ?_ (Below.mono (by assumption) (by first | omega | (simp; done) | (simp; omega) | (simp [World.setCell]; omega))))))
      try simp only [Act.put, List.setIfInBounds_toArray, List.set_cons_zero, List.set_cons_succ]
      refine region_op (i := 8) (oi := ⟨none, (Op.store 83 (Operand.tmp 3) (Operand.tmp 10)), 0, _, _, none⟩) #[true, true, true, true, true, true, true, true, true, false] rfl (by kernel_rfl) rfl rfl ?_
      intro K hK
      refine wp_store 83 _ _ rfl _ 0 83 [.string ⟨#[]⟩, .nilFunc] [.string ⟨#[119, 97, 105, 116]⟩, .func (.func 107) #[] #[]] ?_ rfl rfl (by kernel_rfl) (by simp) rfl [.string ⟨#[119, 97, 105, 116]⟩, .func (.func 107) #[] #[]] rfl ?_; (· (try simp only [alloc_drew, heap_drew]; first | exact heap_alloc_new _ _ | exact hp1 _ _ _ | exact hp2 _ _ _ _ | exact hp3 _ _ _ _ _ | exact hq1 _ _ _ | exact hq2 _ _ _ _ | exact hq3 _ _ _ _ _ | exact hr2 _ _ _ _ | exact hr3 _ _ _ _ _ | (simp; done)))
      refine hK _ _ ⟨?_, fun hS => ?_⟩
      · (show Below _ _ _; repeat (first | exact Below.refl _ _ | assumption | refine Below.drew ?_ | refine Below.alloc ?_ (by first | omega | (simp; done) | (simp; omega) | (simp [World.setCell]; omega)) _ | refine Below.setCell ?_ (by first | omega | (simp; done) | (simp; omega) | (simp [World.setCell]; omega)) _ | refine below_setRow ?_ (by first | omega | (simp; done) | (simp; omega) | (simp [World.setCell]; omega)) _ | (refine Below.trans ?_ (Below.mono (by assumption) (by first | omega | (simp; done) | (simp; omega) | (simp [World.setCell]; omega))))))
      try simp only [Act.put, List.setIfInBounds_toArray, List.set_cons_zero, List.set_cons_succ]
      refine region_take (i := 9) (oi := ⟨(some 4), (Op.assign (Operand.tmp 11)), 4, _, _, none⟩) (v := ?_) #[true, true, true, true, true, true, true, true, true, true] rfl (by kernel_rfl) (by kernel_rfl) (by kernel_rfl) (fun _ _ _ h => h) hS ?_ rfl ?_
      rotate_left
      · refine Or.inl ⟨rfl, fun W hW => ?_⟩
        dsimp only at hW
        have hx0 := (hW.cell (p := ⟨w.heap.size, 0, none⟩) (by simp)).trans hc0
        go_simp
        try rfl
      try simp only [Act.put, List.setIfInBounds_toArray, List.set_cons_zero, List.set_cons_succ]
      refine anyH_forget (F := (fun W => Below (w.heap.size + 1) (w.alloc (.cells #[.int .i64 4, .int .i64 size, .int .u32 addr, .bool idx, .int .u32 data, .int .i64 to, .int .i64 k, .int .i64 ix, .int .i64 wo, .int .i64 li, .bool on, .int .i64 rw, .int .u32 rf, .int .u32 rt, .bool rd, .bool wr, .int .i64 rk, .bool lk] 33)) W ∧ W.heap[w.heap.size + 1 + 1]? = some (.cells #[.string ⟨#[119, 97, 105, 116]⟩, .func (.func 107) #[] #[]] 83))) ⟨hS, setRow_heap _ _ _ _ _ _ (by (try simp only [alloc_drew, heap_drew]; first | exact heap_alloc_new _ _ | exact hp1 _ _ _ | exact hp2 _ _ _ _ | exact hp3 _ _ _ _ _ | exact hq1 _ _ _ | exact hq2 _ _ _ _ | exact hq3 _ _ _ _ _ | exact hr2 _ _ _ _ | exact hr3 _ _ _ _ _ | (simp; done)))⟩ ?_
      rintro w5 ⟨hB5, hr5⟩
      refine wpAnyH_done (by kernel_rfl) ?_ _
      have hrow := (hB5.block w.heap.size (by omega)).trans hcl
      have hsz := hB5.size
      simp at hsz
      have hc5 := rowc hr5 1
      simp only [List.getElem?_cons_succ, List.getElem?_cons_zero] at hc5
      clear hS hr5 hc0 hcl
      go_wp2_with (first | (go_at_call 107; (with_reducible refine (none_any 4 size addr data to k ix wo li rw rf rt rk idx on rd wr lk _).mono ?_); rintro e w6 ⟨rfl, hb6⟩) | ((with_reducible refine wpl_load 33 _ rfl ?_ w.heap.size 0 ?_ _ _ (CellsAt.of_block hrow) Tryz.underlying33 rfl (by kernel_rfl) ?_); (· rfl); (· rfl)))
      go_ret
      exact ⟨rfl, ((Below.refl _ _).alloc (Nat.le_refl _) _).trans ((hB5.mono (by omega)).trans (hb6.mono (by omega)))⟩
    · intro K hK
      go_simp
      refine hK _ _ ⟨?_, fun hS => ?_⟩
      · (show Below _ _ _; repeat (first | exact Below.refl _ _ | assumption | refine Below.drew ?_ | refine Below.alloc ?_ (by first | omega | (simp; done) | (simp; omega) | (simp [World.setCell]; omega)) _ | refine Below.setCell ?_ (by first | omega | (simp; done) | (simp; omega) | (simp [World.setCell]; omega)) _ | refine below_setRow ?_ (by first | omega | (simp; done) | (simp; omega) | (simp [World.setCell]; omega)) _ | (refine Below.trans ?_ (Below.mono (by assumption) (by first | omega | (simp; done) | (simp; omega) | (simp [World.setCell]; omega))))))
      try simp only [Act.put, List.setIfInBounds_toArray, List.set_cons_zero, List.set_cons_succ]
      refine region_op (i := 3) (oi := ⟨(some 9), (Op.lookup 85 (Operand.tmp 6) (Operand.tmp 8) true), 84, _, _, none⟩) #[true, true, true, true, false, false, false, true, false, false] rfl (by kernel_rfl) rfl rfl ?_
      intro K hK
      refine wp_lookK _ _ 4 (kindV [119, 97, 105, 116] 107) 3 _ rfl rfl rfl rfl ?_ ?_; (· (try simp only [alloc_drew, heap_drew]; first | exact heap_alloc_new _ _ | exact hp1 _ _ _ | exact hp2 _ _ _ _ | exact hp3 _ _ _ _ _ | exact hq1 _ _ _ | exact hq2 _ _ _ _ | exact hq3 _ _ _ _ _ | exact hr2 _ _ _ _ | exact hr3 _ _ _ _ _ | (simp; done)))
      refine hK _ _ ⟨?_, fun hS => ?_⟩
      · (show Below _ _ _; repeat (first | exact Below.refl _ _ | assumption | refine Below.drew ?_ | refine Below.alloc ?_ (by first | omega | (simp; done) | (simp; omega) | (simp [World.setCell]; omega)) _ | refine Below.setCell ?_ (by first | omega | (simp; done) | (simp; omega) | (simp [World.setCell]; omega)) _ | refine below_setRow ?_ (by first | omega | (simp; done) | (simp; omega) | (simp [World.setCell]; omega)) _ | (refine Below.trans ?_ (Below.mono (by assumption) (by first | omega | (simp; done) | (simp; omega) | (simp [World.setCell]; omega))))))
      try simp only [Act.put, List.setIfInBounds_toArray, List.set_cons_zero, List.set_cons_succ]
      refine region_take (i := 4) (oi := ⟨(some 5), (Op.move (Operand.tmp 9)), 84, _, _, none⟩) (v := ?_) #[true, true, true, true, true, false, false, true, false, false] rfl (by kernel_rfl) (by kernel_rfl) (by kernel_rfl) (fun _ _ _ h => h) hS ?_ rfl ?_
      rotate_left
      · refine Or.inl ⟨rfl, fun W hW => ?_⟩
        dsimp only at hW
        have hx0 := (hW.cell (p := ⟨w.heap.size, 0, none⟩) (by simp)).trans hc0
        go_simp
        try rfl
      try simp only [Act.put, List.setIfInBounds_toArray, List.set_cons_zero, List.set_cons_succ]
      refine region_take (i := 5) (oi := ⟨(some 10), (Op.extract (Operand.tmp 5) 0), 83, _, _, none⟩) (v := ?_) #[true, true, true, true, true, true, false, true, false, false] rfl (by kernel_rfl) (by kernel_rfl) (by kernel_rfl) (fun _ _ _ h => h) hS ?_ rfl ?_
      rotate_left
      · refine Or.inl ⟨rfl, fun W hW => ?_⟩
        dsimp only at hW
        have hx0 := (hW.cell (p := ⟨w.heap.size, 0, none⟩) (by simp)).trans hc0
        go_simp
        try rfl
      try simp only [Act.put, List.setIfInBounds_toArray, List.set_cons_zero, List.set_cons_succ]
      refine region_take (i := 6) (oi := ⟨(some 11), (Op.extract (Operand.tmp 5) 1), 4, _, _, none⟩) (v := ?_) #[true, true, true, true, true, true, true, true, false, false] rfl (by kernel_rfl) (by kernel_rfl) (by kernel_rfl) (fun _ _ _ h => h) hS ?_ rfl ?_
      rotate_left
      · refine Or.inl ⟨rfl, fun W hW => ?_⟩
        dsimp only at hW
        have hx0 := (hW.cell (p := ⟨w.heap.size, 0, none⟩) (by simp)).trans hc0
        go_simp
        try rfl
      try simp only [Act.put, List.setIfInBounds_toArray, List.set_cons_zero, List.set_cons_succ]
      refine region_op (i := 8) (oi := ⟨none, (Op.store 83 (Operand.tmp 3) (Operand.tmp 10)), 0, _, _, none⟩) #[true, true, true, true, true, true, true, true, true, false] rfl (by kernel_rfl) rfl rfl ?_
      intro K hK
      refine wp_store 83 _ _ rfl _ 0 83 [.string ⟨#[]⟩, .nilFunc] [.string ⟨#[119, 97, 105, 116]⟩, .func (.func 107) #[] #[]] ?_ rfl rfl (by kernel_rfl) (by simp) rfl [.string ⟨#[119, 97, 105, 116]⟩, .func (.func 107) #[] #[]] rfl ?_; (· (try simp only [alloc_drew, heap_drew]; first | exact heap_alloc_new _ _ | exact hp1 _ _ _ | exact hp2 _ _ _ _ | exact hp3 _ _ _ _ _ | exact hq1 _ _ _ | exact hq2 _ _ _ _ | exact hq3 _ _ _ _ _ | exact hr2 _ _ _ _ | exact hr3 _ _ _ _ _ | (simp; done)))
      refine hK _ _ ⟨?_, fun hS => ?_⟩
      · (show Below _ _ _; repeat (first | exact Below.refl _ _ | assumption | refine Below.drew ?_ | refine Below.alloc ?_ (by first | omega | (simp; done) | (simp; omega) | (simp [World.setCell]; omega)) _ | refine Below.setCell ?_ (by first | omega | (simp; done) | (simp; omega) | (simp [World.setCell]; omega)) _ | refine below_setRow ?_ (by first | omega | (simp; done) | (simp; omega) | (simp [World.setCell]; omega)) _ | (refine Below.trans ?_ (Below.mono (by assumption) (by first | omega | (simp; done) | (simp; omega) | (simp [World.setCell]; omega))))))
      try simp only [Act.put, List.setIfInBounds_toArray, List.set_cons_zero, List.set_cons_succ]
      refine region_take (i := 9) (oi := ⟨(some 4), (Op.assign (Operand.tmp 11)), 4, _, _, none⟩) (v := ?_) #[true, true, true, true, true, true, true, true, true, true] rfl (by kernel_rfl) (by kernel_rfl) (by kernel_rfl) (fun _ _ _ h => h) hS ?_ rfl ?_
      rotate_left
      · refine Or.inl ⟨rfl, fun W hW => ?_⟩
        dsimp only at hW
        have hx0 := (hW.cell (p := ⟨w.heap.size, 0, none⟩) (by simp)).trans hc0
        go_simp
        try rfl
      try simp only [Act.put, List.setIfInBounds_toArray, List.set_cons_zero, List.set_cons_succ]
      refine anyH_forget (F := (fun W => Below (w.heap.size + 1) (w.alloc (.cells #[.int .i64 4, .int .i64 size, .int .u32 addr, .bool idx, .int .u32 data, .int .i64 to, .int .i64 k, .int .i64 ix, .int .i64 wo, .int .i64 li, .bool on, .int .i64 rw, .int .u32 rf, .int .u32 rt, .bool rd, .bool wr, .int .i64 rk, .bool lk] 33)) W ∧ W.heap[w.heap.size + 1 + 1]? = some (.cells #[.string ⟨#[119, 97, 105, 116]⟩, .func (.func 107) #[] #[]] 83))) ⟨hS, setRow_heap _ _ _ _ _ _ (by (try simp only [alloc_drew, heap_drew]; first | exact heap_alloc_new _ _ | exact hp1 _ _ _ | exact hp2 _ _ _ _ | exact hp3 _ _ _ _ _ | exact hq1 _ _ _ | exact hq2 _ _ _ _ | exact hq3 _ _ _ _ _ | exact hr2 _ _ _ _ | exact hr3 _ _ _ _ _ | (simp; done)))⟩ ?_
      rintro w5 ⟨hB5, hr5⟩
      refine wpAnyH_done (by kernel_rfl) ?_ _
      have hrow := (hB5.block w.heap.size (by omega)).trans hcl
      have hsz := hB5.size
      simp at hsz
      have hc5 := rowc hr5 1
      simp only [List.getElem?_cons_succ, List.getElem?_cons_zero] at hc5
      clear hS hr5 hc0 hcl
      go_wp2_with (first | (go_at_call 107; (with_reducible refine (none_any 4 size addr data to k ix wo li rw rf rt rk idx on rd wr lk _).mono ?_); rintro e w6 ⟨rfl, hb6⟩) | ((with_reducible refine wpl_load 33 _ rfl ?_ w.heap.size 0 ?_ _ _ (CellsAt.of_block hrow) Tryz.underlying33 rfl (by kernel_rfl) ?_); (· rfl); (· rfl)))
      go_ret
      exact ⟨rfl, ((Below.refl _ _).alloc (Nat.le_refl _) _).trans ((hB5.mono (by omega)).trans (hb6.mono (by omega)))⟩
  · intro K hK
    go_simp
    refine hK _ _ ⟨?_, fun hS => ?_⟩
    · (show Below _ _ _; repeat (first | exact Below.refl _ _ | assumption | refine Below.drew ?_ | refine Below.alloc ?_ (by first | omega | (simp; done) | (simp; omega) | (simp [World.setCell]; omega)) _ | refine Below.setCell ?_ (by first | omega | (simp; done) | (simp; omega) | (simp [World.setCell]; omega)) _ | refine below_setRow ?_ (by first | omega | (simp; done) | (simp; omega) | (simp [World.setCell]; omega)) _ | (refine Below.trans ?_ (Below.mono (by assumption) (by first | omega | (simp; done) | (simp; omega) | (simp [World.setCell]; omega))))))
    try simp only [Act.put, List.setIfInBounds_toArray, List.set_cons_zero, List.set_cons_succ]
    refine region_op (i := 0) (oi := ⟨(some 6), (Op.call { callee := (Callee.value (Operand.func 45)), args := #[], argTypes := #[] }), 85, _, _, none⟩) #[true, true, true, false, false, false, false, true, false, false] rfl (by kernel_rfl) rfl rfl ?_
    intro K hK
    go_simp; refine (mapKinds_any _).mono ?_; rintro e w1 ⟨rfl, rfl⟩
    refine hK _ _ ⟨?_, fun hS => ?_⟩
    · (show Below _ _ _; repeat (first | exact Below.refl _ _ | assumption | refine Below.drew ?_ | refine Below.alloc ?_ (by first | omega | (simp; done) | (simp; omega) | (simp [World.setCell]; omega)) _ | refine Below.setCell ?_ (by first | omega | (simp; done) | (simp; omega) | (simp [World.setCell]; omega)) _ | refine below_setRow ?_ (by first | omega | (simp; done) | (simp; omega) | (simp [World.setCell]; omega)) _ | (refine Below.trans ?_ (Below.mono (by assumption) (by first | omega | (simp; done) | (simp; omega) | (simp [World.setCell]; omega))))))
    try simp only [Act.put, List.setIfInBounds_toArray, List.set_cons_zero, List.set_cons_succ]
    refine region_op (i := 3) (oi := ⟨(some 9), (Op.lookup 85 (Operand.tmp 6) (Operand.tmp 8) true), 84, _, _, none⟩) #[true, true, true, true, false, false, false, true, false, false] rfl (by kernel_rfl) rfl rfl ?_
    intro K hK
    refine wp_lookK _ _ 4 (kindV [119, 97, 105, 116] 107) 3 _ rfl rfl rfl rfl ?_ ?_; (· (try simp only [alloc_drew, heap_drew]; first | exact heap_alloc_new _ _ | exact hp1 _ _ _ | exact hp2 _ _ _ _ | exact hp3 _ _ _ _ _ | exact hq1 _ _ _ | exact hq2 _ _ _ _ | exact hq3 _ _ _ _ _ | exact hr2 _ _ _ _ | exact hr3 _ _ _ _ _ | (simp; done)))
    refine hK _ _ ⟨?_, fun hS => ?_⟩
    · (show Below _ _ _; repeat (first | exact Below.refl _ _ | assumption | refine Below.drew ?_ | refine Below.alloc ?_ (by first | omega | (simp; done) | (simp; omega) | (simp [World.setCell]; omega)) _ | refine Below.setCell ?_ (by first | omega | (simp; done) | (simp; omega) | (simp [World.setCell]; omega)) _ | refine below_setRow ?_ (by first | omega | (simp; done) | (simp; omega) | (simp [World.setCell]; omega)) _ | (refine Below.trans ?_ (Below.mono (by assumption) (by first | omega | (simp; done) | (simp; omega) | (simp [World.setCell]; omega))))))
    try simp only [Act.put, List.setIfInBounds_toArray, List.set_cons_zero, List.set_cons_succ]
    refine region_take (i := 4) (oi := ⟨(some 5), (Op.move (Operand.tmp 9)), 84, _, _, none⟩) (v := ?_) #[true, true, true, true, true, false, false, true, false, false] rfl (by kernel_rfl) (by kernel_rfl) (by kernel_rfl) (fun _ _ _ h => h) hS ?_ rfl ?_
    rotate_left
    · refine Or.inl ⟨rfl, fun W hW => ?_⟩
      dsimp only at hW
      have hx0 := (hW.cell (p := ⟨w.heap.size, 0, none⟩) (by simp)).trans hc0
      go_simp
      try rfl
    try simp only [Act.put, List.setIfInBounds_toArray, List.set_cons_zero, List.set_cons_succ]
    refine region_take (i := 5) (oi := ⟨(some 10), (Op.extract (Operand.tmp 5) 0), 83, _, _, none⟩) (v := ?_) #[true, true, true, true, true, true, false, true, false, false] rfl (by kernel_rfl) (by kernel_rfl) (by kernel_rfl) (fun _ _ _ h => h) hS ?_ rfl ?_
    rotate_left
    · refine Or.inl ⟨rfl, fun W hW => ?_⟩
      dsimp only at hW
      have hx0 := (hW.cell (p := ⟨w.heap.size, 0, none⟩) (by simp)).trans hc0
      go_simp
      try rfl
    try simp only [Act.put, List.setIfInBounds_toArray, List.set_cons_zero, List.set_cons_succ]
    refine region_take (i := 6) (oi := ⟨(some 11), (Op.extract (Operand.tmp 5) 1), 4, _, _, none⟩) (v := ?_) #[true, true, true, true, true, true, true, true, false, false] rfl (by kernel_rfl) (by kernel_rfl) (by kernel_rfl) (fun _ _ _ h => h) hS ?_ rfl ?_
    rotate_left
    · refine Or.inl ⟨rfl, fun W hW => ?_⟩
      dsimp only at hW
      have hx0 := (hW.cell (p := ⟨w.heap.size, 0, none⟩) (by simp)).trans hc0
      go_simp
      try rfl
    try simp only [Act.put, List.setIfInBounds_toArray, List.set_cons_zero, List.set_cons_succ]
    refine region_op (i := 8) (oi := ⟨none, (Op.store 83 (Operand.tmp 3) (Operand.tmp 10)), 0, _, _, none⟩) #[true, true, true, true, true, true, true, true, true, false] rfl (by kernel_rfl) rfl rfl ?_
    intro K hK
    refine wp_store 83 _ _ rfl _ 0 83 [.string ⟨#[]⟩, .nilFunc] [.string ⟨#[119, 97, 105, 116]⟩, .func (.func 107) #[] #[]] ?_ rfl rfl (by kernel_rfl) (by simp) rfl [.string ⟨#[119, 97, 105, 116]⟩, .func (.func 107) #[] #[]] rfl ?_; (· (try simp only [alloc_drew, heap_drew]; first | exact heap_alloc_new _ _ | exact hp1 _ _ _ | exact hp2 _ _ _ _ | exact hp3 _ _ _ _ _ | exact hq1 _ _ _ | exact hq2 _ _ _ _ | exact hq3 _ _ _ _ _ | exact hr2 _ _ _ _ | exact hr3 _ _ _ _ _ | (simp; done)))
    refine hK _ _ ⟨?_, fun hS => ?_⟩
    · (show Below _ _ _; repeat (first | exact Below.refl _ _ | assumption | refine Below.drew ?_ | refine Below.alloc ?_ (by first | omega | (simp; done) | (simp; omega) | (simp [World.setCell]; omega)) _ | refine Below.setCell ?_ (by first | omega | (simp; done) | (simp; omega) | (simp [World.setCell]; omega)) _ | refine below_setRow ?_ (by first | omega | (simp; done) | (simp; omega) | (simp [World.setCell]; omega)) _ | (refine Below.trans ?_ (Below.mono (by assumption) (by first | omega | (simp; done) | (simp; omega) | (simp [World.setCell]; omega))))))
    try simp only [Act.put, List.setIfInBounds_toArray, List.set_cons_zero, List.set_cons_succ]
    refine region_take (i := 9) (oi := ⟨(some 4), (Op.assign (Operand.tmp 11)), 4, _, _, none⟩) (v := ?_) #[true, true, true, true, true, true, true, true, true, true] rfl (by kernel_rfl) (by kernel_rfl) (by kernel_rfl) (fun _ _ _ h => h) hS ?_ rfl ?_
    rotate_left
    · refine Or.inl ⟨rfl, fun W hW => ?_⟩
      dsimp only at hW
      have hx0 := (hW.cell (p := ⟨w.heap.size, 0, none⟩) (by simp)).trans hc0
      go_simp
      try rfl
    try simp only [Act.put, List.setIfInBounds_toArray, List.set_cons_zero, List.set_cons_succ]
    refine anyH_forget (F := (fun W => Below (w.heap.size + 1) (w.alloc (.cells #[.int .i64 4, .int .i64 size, .int .u32 addr, .bool idx, .int .u32 data, .int .i64 to, .int .i64 k, .int .i64 ix, .int .i64 wo, .int .i64 li, .bool on, .int .i64 rw, .int .u32 rf, .int .u32 rt, .bool rd, .bool wr, .int .i64 rk, .bool lk] 33)) W ∧ W.heap[w.heap.size + 1]? = some (.cells #[.string ⟨#[119, 97, 105, 116]⟩, .func (.func 107) #[] #[]] 83))) ⟨hS, setRow_heap _ _ _ _ _ _ (by (try simp only [alloc_drew, heap_drew]; first | exact heap_alloc_new _ _ | exact hp1 _ _ _ | exact hp2 _ _ _ _ | exact hp3 _ _ _ _ _ | exact hq1 _ _ _ | exact hq2 _ _ _ _ | exact hq3 _ _ _ _ _ | exact hr2 _ _ _ _ | exact hr3 _ _ _ _ _ | (simp; done)))⟩ ?_
    rintro w5 ⟨hB5, hr5⟩
    refine wpAnyH_done (by kernel_rfl) ?_ _
    have hrow := (hB5.block w.heap.size (by omega)).trans hcl
    have hsz := hB5.size
    simp at hsz
    have hc5 := rowc hr5 1
    simp only [List.getElem?_cons_succ, List.getElem?_cons_zero] at hc5
    clear hS hr5 hc0 hcl
    go_wp2_with (first | (go_at_call 107; (with_reducible refine (none_any 4 size addr data to k ix wo li rw rf rt rk idx on rd wr lk _).mono ?_); rintro e w6 ⟨rfl, hb6⟩) | ((with_reducible refine wpl_load 33 _ rfl ?_ w.heap.size 0 ?_ _ _ (CellsAt.of_block hrow) Tryz.underlying33 rfl (by kernel_rfl) ?_); (· rfl); (· rfl)))
    go_ret
    exact ⟨rfl, ((Below.refl _ _).alloc (Nat.le_refl _) _).trans ((hB5.mono (by omega)).trans (hb6.mono (by omega)))⟩
end Go.Proofs.YtmjojlacpgdomaaGreatDoor
