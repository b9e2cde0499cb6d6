import Derived.Test.YtmjojlacpgdomaaGreatDoorBinstr
import Derived.Test.YtmjojlacpgdomaaGreatDoorBshconf
/-! prog.Instr: mask, conf, halt. -/
namespace Go.Proofs.YtmjojlacpgdomaaGreatDoor
set_option linter.unusedSimpArgs false
set_option linter.unusedVariables false
open Go Go.RowKit
attribute [local go_sem] setRow_new setRow_old
set_option maxRecDepth 100000 in
set_option maxHeartbeats 1000000 in
theorem instr_8 (size addr data to k ix wo li rw rf rt rk : Int) (idx on rd wr lk : Bool) (w : World) :
    Calls Tryz.prog 15 #[.agg #[.int .i64 8, .int .i64 size, .int .u32 addr, .bool idx, .int .u32 data, .int .i64 to, .int .i64 k, .int .i64 ix, .int .i64 wo, .int .i64 li, .bool on, .int .i64 rw, .int .u32 rf, .int .u32 rt, .bool rd, .bool wr, .int .i64 rk, .bool lk]] w fun e w' => e = .returned (.bool (decide (data ≤ 255) && insNone size addr idx 0 to ⟨k, ix, wo, li, ⟨on, rw, rf, rt, rd, wr, rk, lk⟩⟩)) ∧ Below w.heap.size w w' := by
  have hc0 : (w.alloc (.cells #[.int .i64 8, .int .i64 size, .int .u32 addr, .bool idx, .int .u32 data, .int .i64 to, .int .i64 k, .int .i64 ix, .int .i64 wo, .int .i64 li, .bool on, .int .i64 rw, .int .u32 rf, .int .u32 rt, .bool rd, .bool wr, .int .i64 rk, .bool lk] 33)).cell? ⟨w.heap.size, 0, none⟩ = some (.int .i64 8) := by simp
  have hcl : (w.alloc (.cells #[.int .i64 8, .int .i64 size, .int .u32 addr, .bool idx, .int .u32 data, .int .i64 to, .int .i64 k, .int .i64 ix, .int .i64 wo, .int .i64 li, .bool on, .int .i64 rw, .int .u32 rf, .int .u32 rt, .bool rd, .bool wr, .int .i64 rk, .bool lk] 33)).heap[w.heap.size]? = some (.cells #[.int .i64 8, .int .i64 size, .int .u32 addr, .bool idx, .int .u32 data, .int .i64 to, .int .i64 k, .int .i64 ix, .int .i64 wo, .int .i64 li, .bool on, .int .i64 rw, .int .u32 rf, .int .u32 rt, .bool rd, .bool wr, .int .i64 rk, .bool lk] 33) := heap_alloc_new _ _
  go_enter Tryz.func15, Tryz.ntmps15
  go_wp2_with fail
  refine region_start (S := (fun W => Below (w.heap.size + 1) (w.alloc (.cells #[.int .i64 8, .int .i64 size, .int .u32 addr, .bool idx, .int .u32 data, .int .i64 to, .int .i64 k, .int .i64 ix, .int .i64 wo, .int .i64 li, .bool on, .int .i64 rw, .int .u32 rf, .int .u32 rt, .bool rd, .bool wr, .int .i64 rk, .bool lk] 33)) W)) 10 rfl #[false, false, false, false, false, false, false, false, false, false] rfl (by kernel_rfl) ?_
  refine region_s ?_ ?_
  · (show Below _ _ _; repeat (first | exact Below.refl _ _ | assumption | refine Below.drew ?_ | refine Below.alloc ?_ (by first | omega | (simp; done) | (simp; omega) | (simp [World.setCell]; omega)) _ | refine Below.setCell ?_ (by first | omega | (simp; done) | (simp; omega) | (simp [World.setCell]; omega)) _ | refine below_setRow ?_ (by first | omega | (simp; done) | (simp; omega) | (simp [World.setCell]; omega)) _ | (refine Below.trans ?_ (Below.mono (by assumption) (by first | omega | (simp; done) | (simp; omega) | (simp [World.setCell]; omega))))))
  intro hS
  refine region_take (i := 1) (oi := ⟨(some 7), (Op.fieldAddr 33 (Operand.tmp 1) 0), 0, _, _, none⟩) (v := ?_) #[false, true, false, false, false, false, false, false, false, false] rfl (by kernel_rfl) (by kernel_rfl) (by kernel_rfl) (fun _ _ _ h => h) hS ?_ rfl ?_
  rotate_left
  · refine Or.inl ⟨rfl, fun W hW => ?_⟩
    dsimp only at hW
    have hx0 := (hW.cell (p := ⟨w.heap.size, 0, none⟩) (by simp)).trans hc0
    go_simp
    try rfl
  try simp only [Act.put, List.setIfInBounds_toArray, List.set_cons_zero, List.set_cons_succ]
  refine region_take (i := 2) (oi := ⟨(some 8), (Op.load 23 (Operand.tmp 7)), 23, _, _, none⟩) (v := ?_) #[false, true, true, false, false, false, false, false, false, false] rfl (by kernel_rfl) (by kernel_rfl) (by kernel_rfl) (fun _ _ _ h => h) hS ?_ rfl ?_
  rotate_left
  · refine Or.inl ⟨rfl, fun W hW => ?_⟩
    dsimp only at hW
    have hx0 := (hW.cell (p := ⟨w.heap.size, 0, none⟩) (by simp)).trans hc0
    go_simp
    try rfl
  try simp only [Act.put, List.setIfInBounds_toArray, List.set_cons_zero, List.set_cons_succ]
  refine region_two (i := 0) (j := 7) (oi := ⟨(some 6), (Op.call { callee := (Callee.value (Operand.func 45)), args := #[], argTypes := #[] }), 85, _, _, none⟩) (oj := ⟨(some 3), (Op.alloc 83), 0, _, _, none⟩) #[true, true, true, false, false, false, false, false, false, false] #[false, true, true, false, false, false, false, true, false, false] rfl rfl (by kernel_rfl) rfl rfl rfl rfl ?_ ?_
  · intro K hK
    go_simp; refine (mapKinds_any _).mono ?_; rintro e w1 ⟨rfl, rfl⟩
    refine hK _ _ ⟨?_, fun hS => ?_⟩
    · (show Below _ _ _; repeat (first | exact Below.refl _ _ | assumption | refine Below.drew ?_ | refine Below.alloc ?_ (by first | omega | (simp; done) | (simp; omega) | (simp [World.setCell]; omega)) _ | refine Below.setCell ?_ (by first | omega | (simp; done) | (simp; omega) | (simp [World.setCell]; omega)) _ | refine below_setRow ?_ (by first | omega | (simp; done) | (simp; omega) | (simp [World.setCell]; omega)) _ | (refine Below.trans ?_ (Below.mono (by assumption) (by first | omega | (simp; done) | (simp; omega) | (simp [World.setCell]; omega))))))
    try simp only [Act.put, List.setIfInBounds_toArray, List.set_cons_zero, List.set_cons_succ]
    refine region_two (i := 3) (j := 7) (oi := ⟨(some 9), (Op.lookup 85 (Operand.tmp 6) (Operand.tmp 8) true), 84, _, _, none⟩) (oj := ⟨(some 3), (Op.alloc 83), 0, _, _, none⟩) #[true, true, true, true, false, false, false, false, false, false] #[true, true, true, false, false, false, false, true, false, false] rfl rfl (by kernel_rfl) rfl rfl rfl rfl ?_ ?_
    · intro K hK
      refine wp_lookK _ _ 8 (kindV [109, 97, 115, 107] 111) 7 _ rfl rfl rfl rfl ?_ ?_; (· (try simp only [alloc_drew, heap_drew]; first | exact heap_alloc_new _ _ | exact hp1 _ _ _ | exact hp2 _ _ _ _ | exact hp3 _ _ _ _ _ | exact hq1 _ _ _ | exact hq2 _ _ _ _ | exact hq3 _ _ _ _ _ | exact hr2 _ _ _ _ | exact hr3 _ _ _ _ _ | (simp; done)))
      refine hK _ _ ⟨?_, fun hS => ?_⟩
      · (show Below _ _ _; repeat (first | exact Below.refl _ _ | assumption | refine Below.drew ?_ | refine Below.alloc ?_ (by first | omega | (simp; done) | (simp; omega) | (simp [World.setCell]; omega)) _ | refine Below.setCell ?_ (by first | omega | (simp; done) | (simp; omega) | (simp [World.setCell]; omega)) _ | refine below_setRow ?_ (by first | omega | (simp; done) | (simp; omega) | (simp [World.setCell]; omega)) _ | (refine Below.trans ?_ (Below.mono (by assumption) (by first | omega | (simp; done) | (simp; omega) | (simp [World.setCell]; omega))))))
      try simp only [Act.put, List.setIfInBounds_toArray, List.set_cons_zero, List.set_cons_succ]
      refine region_take (i := 4) (oi := ⟨(some 5), (Op.move (Operand.tmp 9)), 84, _, _, none⟩) (v := ?_) #[true, true, true, true, true, false, false, false, false, false] rfl (by kernel_rfl) (by kernel_rfl) (by kernel_rfl) (fun _ _ _ h => h) hS ?_ rfl ?_
      rotate_left
      · refine Or.inl ⟨rfl, fun W hW => ?_⟩
        dsimp only at hW
        have hx0 := (hW.cell (p := ⟨w.heap.size, 0, none⟩) (by simp)).trans hc0
        go_simp
        try rfl
      try simp only [Act.put, List.setIfInBounds_toArray, List.set_cons_zero, List.set_cons_succ]
      refine region_take (i := 5) (oi := ⟨(some 10), (Op.extract (Operand.tmp 5) 0), 83, _, _, none⟩) (v := ?_) #[true, true, true, true, true, true, false, false, false, false] rfl (by kernel_rfl) (by kernel_rfl) (by kernel_rfl) (fun _ _ _ h => h) hS ?_ rfl ?_
      rotate_left
      · refine Or.inl ⟨rfl, fun W hW => ?_⟩
        dsimp only at hW
        have hx0 := (hW.cell (p := ⟨w.heap.size, 0, none⟩) (by simp)).trans hc0
        go_simp
        try rfl
      try simp only [Act.put, List.setIfInBounds_toArray, List.set_cons_zero, List.set_cons_succ]
      refine region_take (i := 6) (oi := ⟨(some 11), (Op.extract (Operand.tmp 5) 1), 4, _, _, none⟩) (v := ?_) #[true, true, true, true, true, true, true, false, false, false] rfl (by kernel_rfl) (by kernel_rfl) (by kernel_rfl) (fun _ _ _ h => h) hS ?_ rfl ?_
      rotate_left
      · refine Or.inl ⟨rfl, fun W hW => ?_⟩
        dsimp only at hW
        have hx0 := (hW.cell (p := ⟨w.heap.size, 0, none⟩) (by simp)).trans hc0
        go_simp
        try rfl
      try simp only [Act.put, List.setIfInBounds_toArray, List.set_cons_zero, List.set_cons_succ]
      refine region_op (i := 7) (oi := ⟨(some 3), (Op.alloc 83), 0, _, _, none⟩) #[true, true, true, true, true, true, true, true, false, false] rfl (by kernel_rfl) rfl rfl ?_
      intro K hK
      go_simp
      refine hK _ _ ⟨?_, fun hS => ?_⟩
      · (show Below _ _ _; repeat (first | exact Below.refl _ _ | assumption | refine Below.drew ?_ | refine Below.alloc ?_ (by first | omega | (simp; done) | (simp; omega) | (simp [World.setCell]; omega)) _ | refine Below.setCell ?_ (by first | omega | (simp; done) | (simp; omega) | (simp [World.setCell]; omega)) _ | refine below_setRow ?_ (by first | omega | (simp; done) | (simp; omega) | (simp [World.setCell]; omega)) _ | (refine Below.trans ?_ (Below.mono (by assumption) (by first | omega | (simp; done) | (simp; omega) | (simp [World.setCell]; omega))))))
      try simp only [Act.put, List.setIfInBounds_toArray, List.set_cons_zero, List.set_cons_succ]
      refine region_op (i := 8) (oi := ⟨none, (Op.store 83 (Operand.tmp 3) (Operand.tmp 10)), 0, _, _, none⟩) #[true, true, true, true, true, true, true, true, true, false] rfl (by kernel_rfl) rfl rfl ?_
      intro K hK
      refine wp_store 83 _ _ rfl _ 0 83 [.string ⟨#[]⟩, .nilFunc] [.string ⟨#[109, 97, 115, 107]⟩, .func (.func 111) #[] #[]] ?_ rfl rfl (by kernel_rfl) (by simp) rfl [.string ⟨#[109, 97, 115, 107]⟩, .func (.func 111) #[] #[]] rfl ?_; (· (try simp only [alloc_drew, heap_drew]; first | exact heap_alloc_new _ _ | exact hp1 _ _ _ | exact hp2 _ _ _ _ | exact hp3 _ _ _ _ _ | exact hq1 _ _ _ | exact hq2 _ _ _ _ | exact hq3 _ _ _ _ _ | exact hr2 _ _ _ _ | exact hr3 _ _ _ _ _ | (simp; done)))
      refine hK _ _ ⟨?_, fun hS => ?_⟩
      · (show Below _ _ _; repeat (first | exact Below.refl _ _ | assumption | refine Below.drew ?_ | refine Below.alloc ?_ (by first | omega | (simp; done) | (simp; omega) | (simp [World.setCell]; omega)) _ | refine Below.setCell ?_ (by first | omega | (simp; done) | (simp; omega) | (simp [World.setCell]; omega)) _ | refine below_setRow ?_ (by first | omega | (simp; done) | (simp; omega) | (simp [World.setCell]; omega)) _ | (refine Below.trans ?_ (Below.mono (by assumption) (by first | omega | (simp; done) | (simp; omega) | (simp [World.setCell]; omega))))))
      try simp only [Act.put, List.setIfInBounds_toArray, List.set_cons_zero, List.set_cons_succ]
      refine region_take (i := 9) (oi := ⟨(some 4), (Op.assign (Operand.tmp 11)), 4, _, _, none⟩) (v := ?_) #[true, true, true, true, true, true, true, true, true, true] rfl (by kernel_rfl) (by kernel_rfl) (by kernel_rfl) (fun _ _ _ h => h) hS ?_ rfl ?_
      rotate_left
      · refine Or.inl ⟨rfl, fun W hW => ?_⟩
        dsimp only at hW
        have hx0 := (hW.cell (p := ⟨w.heap.size, 0, none⟩) (by simp)).trans hc0
        go_simp
        try rfl
      try simp only [Act.put, List.setIfInBounds_toArray, List.set_cons_zero, List.set_cons_succ]
      refine anyH_forget (F := (fun W => Below (w.heap.size + 1) (w.alloc (.cells #[.int .i64 8, .int .i64 size, .int .u32 addr, .bool idx, .int .u32 data, .int .i64 to, .int .i64 k, .int .i64 ix, .int .i64 wo, .int .i64 li, .bool on, .int .i64 rw, .int .u32 rf, .int .u32 rt, .bool rd, .bool wr, .int .i64 rk, .bool lk] 33)) W ∧ W.heap[w.heap.size + 1 + 1]? = some (.cells #[.string ⟨#[109, 97, 115, 107]⟩, .func (.func 111) #[] #[]] 83))) ⟨hS, setRow_heap _ _ _ _ _ _ (by (try simp only [alloc_drew, heap_drew]; first | exact heap_alloc_new _ _ | exact hp1 _ _ _ | exact hp2 _ _ _ _ | exact hp3 _ _ _ _ _ | exact hq1 _ _ _ | exact hq2 _ _ _ _ | exact hq3 _ _ _ _ _ | exact hr2 _ _ _ _ | exact hr3 _ _ _ _ _ | (simp; done)))⟩ ?_
      rintro w5 ⟨hB5, hr5⟩
      refine wpAnyH_done (by kernel_rfl) ?_ _
      have hrow := (hB5.block w.heap.size (by omega)).trans hcl
      have hsz := hB5.size
      simp at hsz
      have hc5 := rowc hr5 1
      simp only [List.getElem?_cons_succ, List.getElem?_cons_zero] at hc5
      clear hS hr5 hc0 hcl
      go_wp2_with (first | (go_at_call 111; (with_reducible refine (shMask_any 8 size addr data to k ix wo li rw rf rt rk idx on rd wr lk _).mono ?_); rintro e w6 ⟨rfl, hb6⟩) | ((with_reducible refine wpl_load 33 _ rfl ?_ w.heap.size 0 ?_ _ _ (CellsAt.of_block hrow) Tryz.underlying33 rfl (by kernel_rfl) ?_); (· rfl); (· rfl)))
      go_ret
      exact ⟨rfl, ((Below.refl _ _).alloc (Nat.le_refl _) _).trans ((hB5.mono (by omega)).trans (hb6.mono (by omega)))⟩
    · intro K hK
      go_simp
      refine hK _ _ ⟨?_, fun hS => ?_⟩
      · (show Below _ _ _; repeat (first | exact Below.refl _ _ | assumption | refine Below.drew ?_ | refine Below.alloc ?_ (by first | omega | (simp; done) | (simp; omega) | (simp [World.setCell]; omega)) _ | refine Below.setCell ?_ (by first | omega | (simp; done) | (simp; omega) | (simp [World.setCell]; omega)) _ | refine below_setRow ?_ (by first | omega | (simp; done) | (simp; omega) | (simp [World.setCell]; omega)) _ | (refine Below.trans ?_ (Below.mono (by assumption) (by first | omega | (simp; done) | (simp; omega) | (simp [World.setCell]; omega))))))
      try simp only [Act.put, List.setIfInBounds_toArray, List.set_cons_zero, List.set_cons_succ]
      refine region_op (i := 3) (oi := ⟨(some 9), (Op.lookup 85 (Operand.tmp 6) (Operand.tmp 8) true), 84, _, _, none⟩) #[true, true, true, true, false, false, false, true, false, false] rfl (by kernel_rfl) rfl rfl ?_
      intro K hK
      refine wp_lookK _ _ 8 (kindV [109, 97, 115, 107] 111) 7 _ rfl rfl rfl rfl ?_ ?_; (· (try simp only [alloc_drew, heap_drew]; first | exact heap_alloc_new _ _ | exact hp1 _ _ _ | exact hp2 _ _ _ _ | exact hp3 _ _ _ _ _ | exact hq1 _ _ _ | exact hq2 _ _ _ _ | exact hq3 _ _ _ _ _ | exact hr2 _ _ _ _ | exact hr3 _ _ _ _ _ | (simp; done)))
      refine hK _ _ ⟨?_, fun hS => ?_⟩
      · (show Below _ _ _; repeat (first | exact Below.refl _ _ | assumption | refine Below.drew ?_ | refine Below.alloc ?_ (by first | omega | (simp; done) | (simp; omega) | (simp [World.setCell]; omega)) _ | refine Below.setCell ?_ (by first | omega | (simp; done) | (simp; omega) | (simp [World.setCell]; omega)) _ | refine below_setRow ?_ (by first | omega | (simp; done) | (simp; omega) | (simp [World.setCell]; omega)) _ | (refine Below.trans ?_ (Below.mono (by assumption) (by first | omega | (simp; done) | (simp; omega) | (simp [World.setCell]; omega))))))
      try simp only [Act.put, List.setIfInBounds_toArray, List.set_cons_zero, List.set_cons_succ]
      refine region_take (i := 4) (oi := ⟨(some 5), (Op.move (Operand.tmp 9)), 84, _, _, none⟩) (v := ?_) #[true, true, true, true, true, false, false, true, false, false] rfl (by kernel_rfl) (by kernel_rfl) (by kernel_rfl) (fun _ _ _ h => h) hS ?_ rfl ?_
      rotate_left
      · refine Or.inl ⟨rfl, fun W hW => ?_⟩
        dsimp only at hW
        have hx0 := (hW.cell (p := ⟨w.heap.size, 0, none⟩) (by simp)).trans hc0
        go_simp
        try rfl
      try simp only [Act.put, List.setIfInBounds_toArray, List.set_cons_zero, List.set_cons_succ]
      refine region_take (i := 5) (oi := ⟨(some 10), (Op.extract (Operand.tmp 5) 0), 83, _, _, none⟩) (v := ?_) #[true, true, true, true, true, true, false, true, false, false] rfl (by kernel_rfl) (by kernel_rfl) (by kernel_rfl) (fun _ _ _ h => h) hS ?_ rfl ?_
      rotate_left
      · refine Or.inl ⟨rfl, fun W hW => ?_⟩
        dsimp only at hW
        have hx0 := (hW.cell (p := ⟨w.heap.size, 0, none⟩) (by simp)).trans hc0
        go_simp
        try rfl
      try simp only [Act.put, List.setIfInBounds_toArray, List.set_cons_zero, List.set_cons_succ]
      refine region_take (i := 6) (oi := ⟨(some 11), (Op.extract (Operand.tmp 5) 1), 4, _, _, none⟩) (v := ?_) #[true, true, true, true, true, true, true, true, false, false] rfl (by kernel_rfl) (by kernel_rfl) (by kernel_rfl) (fun _ _ _ h => h) hS ?_ rfl ?_
      rotate_left
      · refine Or.inl ⟨rfl, fun W hW => ?_⟩
        dsimp only at hW
        have hx0 := (hW.cell (p := ⟨w.heap.size, 0, none⟩) (by simp)).trans hc0
        go_simp
        try rfl
      try simp only [Act.put, List.setIfInBounds_toArray, List.set_cons_zero, List.set_cons_succ]
      refine region_op (i := 8) (oi := ⟨none, (Op.store 83 (Operand.tmp 3) (Operand.tmp 10)), 0, _, _, none⟩) #[true, true, true, true, true, true, true, true, true, false] rfl (by kernel_rfl) rfl rfl ?_
      intro K hK
      refine wp_store 83 _ _ rfl _ 0 83 [.string ⟨#[]⟩, .nilFunc] [.string ⟨#[109, 97, 115, 107]⟩, .func (.func 111) #[] #[]] ?_ rfl rfl (by kernel_rfl) (by simp) rfl [.string ⟨#[109, 97, 115, 107]⟩, .func (.func 111) #[] #[]] rfl ?_; (· (try simp only [alloc_drew, heap_drew]; first | exact heap_alloc_new _ _ | exact hp1 _ _ _ | exact hp2 _ _ _ _ | exact hp3 _ _ _ _ _ | exact hq1 _ _ _ | exact hq2 _ _ _ _ | exact hq3 _ _ _ _ _ | exact hr2 _ _ _ _ | exact hr3 _ _ _ _ _ | (simp; done)))
      refine hK _ _ ⟨?_, fun hS => ?_⟩
      · (show Below _ _ _; repeat (first | exact Below.refl _ _ | assumption | refine Below.drew ?_ | refine Below.alloc ?_ (by first | omega | (simp; done) | (simp; omega) | (simp [World.setCell]; omega)) _ | refine Below.setCell ?_ (by first | omega | (simp; done) | (simp; omega) | (simp [World.setCell]; omega)) _ | refine below_setRow ?_ (by first | omega | (simp; done) | (simp; omega) | (simp [World.setCell]; omega)) _ | (refine Below.trans ?_ (Below.mono (by assumption) (by first | omega | (simp; done) | (simp; omega) | (simp [World.setCell]; omega))))))
      try simp only [Act.put, List.setIfInBounds_toArray, List.set_cons_zero, List.set_cons_succ]
      refine region_take (i := 9) (oi := ⟨(some 4), (Op.assign (Operand.tmp 11)), 4, _, _, none⟩) (v := ?_) #[true, true, true, true, true, true, true, true, true, true] rfl (by kernel_rfl) (by kernel_rfl) (by kernel_rfl) (fun _ _ _ h => h) hS ?_ rfl ?_
      rotate_left
      · refine Or.inl ⟨rfl, fun W hW => ?_⟩
        dsimp only at hW
        have hx0 := (hW.cell (p := ⟨w.heap.size, 0, none⟩) (by simp)).trans hc0
        go_simp
        try rfl
      try simp only [Act.put, List.setIfInBounds_toArray, List.set_cons_zero, List.set_cons_succ]
      refine anyH_forget (F := (fun W => Below (w.heap.size + 1) (w.alloc (.cells #[.int .i64 8, .int .i64 size, .int .u32 addr, .bool idx, .int .u32 data, .int .i64 to, .int .i64 k, .int .i64 ix, .int .i64 wo, .int .i64 li, .bool on, .int .i64 rw, .int .u32 rf, .int .u32 rt, .bool rd, .bool wr, .int .i64 rk, .bool lk] 33)) W ∧ W.heap[w.heap.size + 1 + 1]? = some (.cells #[.string ⟨#[109, 97, 115, 107]⟩, .func (.func 111) #[] #[]] 83))) ⟨hS, setRow_heap _ _ _ _ _ _ (by (try simp only [alloc_drew, heap_drew]; first | exact heap_alloc_new _ _ | exact hp1 _ _ _ | exact hp2 _ _ _ _ | exact hp3 _ _ _ _ _ | exact hq1 _ _ _ | exact hq2 _ _ _ _ | exact hq3 _ _ _ _ _ | exact hr2 _ _ _ _ | exact hr3 _ _ _ _ _ | (simp; done)))⟩ ?_
      rintro w5 ⟨hB5, hr5⟩
      refine wpAnyH_done (by kernel_rfl) ?_ _
      have hrow := (hB5.block w.heap.size (by omega)).trans hcl
      have hsz := hB5.size
      simp at hsz
      have hc5 := rowc hr5 1
      simp only [List.getElem?_cons_succ, List.getElem?_cons_zero] at hc5
      clear hS hr5 hc0 hcl
      go_wp2_with (first | (go_at_call 111; (with_reducible refine (shMask_any 8 size addr data to k ix wo li rw rf rt rk idx on rd wr lk _).mono ?_); rintro e w6 ⟨rfl, hb6⟩) | ((with_reducible refine wpl_load 33 _ rfl ?_ w.heap.size 0 ?_ _ _ (CellsAt.of_block hrow) Tryz.underlying33 rfl (by kernel_rfl) ?_); (· rfl); (· rfl)))
      go_ret
      exact ⟨rfl, ((Below.refl _ _).alloc (Nat.le_refl _) _).trans ((hB5.mono (by omega)).trans (hb6.mono (by omega)))⟩
  · intro K hK
    go_simp
    refine hK _ _ ⟨?_, fun hS => ?_⟩
    · (show Below _ _ _; repeat (first | exact Below.refl _ _ | assumption | refine Below.drew ?_ | refine Below.alloc ?_ (by first | omega | (simp; done) | (simp; omega) | (simp [World.setCell]; omega)) _ | refine Below.setCell ?_ (by first | omega | (simp; done) | (simp; omega) | (simp [World.setCell]; omega)) _ | refine below_setRow ?_ (by first | omega | (simp; done) | (simp; omega) | (simp [World.setCell]; omega)) _ | (refine Below.trans ?_ (Below.mono (by assumption) (by first | omega | (simp; done) | (simp; omega) | (simp [World.setCell]; omega))))))
    try simp only [Act.put, List.setIfInBounds_toArray, List.set_cons_zero, List.set_cons_succ]
    refine region_op (i := 0) (oi := ⟨(some 6), (Op.call { callee := (Callee.value (Operand.func 45)), args := #[], argTypes := #[] }), 85, _, _, none⟩) #[true, true, true, false, false, false, false, true, false, false] rfl (by kernel_rfl) rfl rfl ?_
    intro K hK
    go_simp; refine (mapKinds_any _).mono ?_; rintro e w1 ⟨rfl, rfl⟩
    refine hK _ _ ⟨?_, fun hS => ?_⟩
    · (show Below _ _ _; repeat (first | exact Below.refl _ _ | assumption | refine Below.drew ?_ | refine Below.alloc ?_ (by first | omega | (simp; done) | (simp; omega) | (simp [World.setCell]; omega)) _ | refine Below.setCell ?_ (by first | omega | (simp; done) | (simp; omega) | (simp [World.setCell]; omega)) _ | refine below_setRow ?_ (by first | omega | (simp; done) | (simp; omega) | (simp [World.setCell]; omega)) _ | (refine Below.trans ?_ (Below.mono (by assumption) (by first | omega | (simp; done) | (simp; omega) | (simp [World.setCell]; omega))))))
    try simp only [Act.put, List.setIfInBounds_toArray, List.set_cons_zero, List.set_cons_succ]
    refine region_op (i := 3) (oi := ⟨(some 9), (Op.lookup 85 (Operand.tmp 6) (Operand.tmp 8) true), 84, _, _, none⟩) #[true, true, true, true, false, false, false, true, false, false] rfl (by kernel_rfl) rfl rfl ?_
    intro K hK
    refine wp_lookK _ _ 8 (kindV [109, 97, 115, 107] 111) 7 _ rfl rfl rfl rfl ?_ ?_; (· (try simp only [alloc_drew, heap_drew]; first | exact heap_alloc_new _ _ | exact hp1 _ _ _ | exact hp2 _ _ _ _ | exact hp3 _ _ _ _ _ | exact hq1 _ _ _ | exact hq2 _ _ _ _ | exact hq3 _ _ _ _ _ | exact hr2 _ _ _ _ | exact hr3 _ _ _ _ _ | (simp; done)))
    refine hK _ _ ⟨?_, fun hS => ?_⟩
    · (show Below _ _ _; repeat (first | exact Below.refl _ _ | assumption | refine Below.drew ?_ | refine Below.alloc ?_ (by first | omega | (simp; done) | (simp; omega) | (simp [World.setCell]; omega)) _ | refine Below.setCell ?_ (by first | omega | (simp; done) | (simp; omega) | (simp [World.setCell]; omega)) _ | refine below_setRow ?_ (by first | omega | (simp; done) | (simp; omega) | (simp [World.setCell]; omega)) _ | (refine Below.trans ?_ (Below.mono (by assumption) (by first | omega | (simp; done) | (simp; omega) | (simp [World.setCell]; omega))))))
    try simp only [Act.put, List.setIfInBounds_toArray, List.set_cons_zero, List.set_cons_succ]
    refine region_take (i := 4) (oi := ⟨(some 5), (Op.move (Operand.tmp 9)), 84, _, _, none⟩) (v := ?_) #[true, true, true, true, true, false, false, true, false, false] rfl (by kernel_rfl) (by kernel_rfl) (by kernel_rfl) (fun _ _ _ h => h) hS ?_ rfl ?_
    rotate_left
    · refine Or.inl ⟨rfl, fun W hW => ?_⟩
      dsimp only at hW
      have hx0 := (hW.cell (p := ⟨w.heap.size, 0, none⟩) (by simp)).trans hc0
      go_simp
      try rfl
    try simp only [Act.put, List.setIfInBounds_toArray, List.set_cons_zero, List.set_cons_succ]
    refine region_take (i := 5) (oi := ⟨(some 10), (Op.extract (Operand.tmp 5) 0), 83, _, _, none⟩) (v := ?_) #[true, true, true, true, true, true, false, true, false, false] rfl (by kernel_rfl) (by kernel_rfl) (by kernel_rfl) (fun _ _ _ h => h) hS ?_ rfl ?_
    rotate_left
    · refine Or.inl ⟨rfl, fun W hW => ?_⟩
      dsimp only at hW
      have hx0 := (hW.cell (p := ⟨w.heap.size, 0, none⟩) (by simp)).trans hc0
      go_simp
      try rfl
    try simp only [Act.put, List.setIfInBounds_toArray, List.set_cons_zero, List.set_cons_succ]
    refine region_take (i := 6) (oi := ⟨(some 11), (Op.extract (Operand.tmp 5) 1), 4, _, _, none⟩) (v := ?_) #[true, true, true, true, true, true, true, true, false, false] rfl (by kernel_rfl) (by kernel_rfl) (by kernel_rfl) (fun _ _ _ h => h) hS ?_ rfl ?_
    rotate_left
    · refine Or.inl ⟨rfl, fun W hW => ?_⟩
      dsimp only at hW
      have hx0 := (hW.cell (p := ⟨w.heap.size, 0, none⟩) (by simp)).trans hc0
      go_simp
      try rfl
    try simp only [Act.put, List.setIfInBounds_toArray, List.set_cons_zero, List.set_cons_succ]
    refine region_op (i := 8) (oi := ⟨none, (Op.store 83 (Operand.tmp 3) (Operand.tmp 10)), 0, _, _, none⟩) #[true, true, true, true, true, true, true, true, true, false] rfl (by kernel_rfl) rfl rfl ?_
    intro K hK
    refine wp_store 83 _ _ rfl _ 0 83 [.string ⟨#[]⟩, .nilFunc] [.string ⟨#[109, 97, 115, 107]⟩, .func (.func 111) #[] #[]] ?_ rfl rfl (by kernel_rfl) (by simp) rfl [.string ⟨#[109, 97, 115, 107]⟩, .func (.func 111) #[] #[]] rfl ?_; (· (try simp only [alloc_drew, heap_drew]; first | exact heap_alloc_new _ _ | exact hp1 _ _ _ | exact hp2 _ _ _ _ | exact hp3 _ _ _ _ _ | exact hq1 _ _ _ | exact hq2 _ _ _ _ | exact hq3 _ _ _ _ _ | exact hr2 _ _ _ _ | exact hr3 _ _ _ _ _ | (simp; done)))
    refine hK _ _ ⟨?_, fun hS => ?_⟩
    · (show Below _ _ _; repeat (first | exact Below.refl _ _ | assumption | refine Below.drew ?_ | refine Below.alloc ?_ (by first | omega | (simp; done) | (simp; omega) | (simp [World.setCell]; omega)) _ | refine Below.setCell ?_ (by first | omega | (simp; done) | (simp; omega) | (simp [World.setCell]; omega)) _ | refine below_setRow ?_ (by first | omega | (simp; done) | (simp; omega) | (simp [World.setCell]; omega)) _ | (refine Below.trans ?_ (Below.mono (by assumption) (by first | omega | (simp; done) | (simp; omega) | (simp [World.setCell]; omega))))))
    try simp only [Act.put, List.setIfInBounds_toArray, List.set_cons_zero, List.set_cons_succ]
    refine region_take (i := 9) (oi := ⟨(some 4), (Op.assign (Operand.tmp 11)), 4, _, _, none⟩) (v := ?_) #[true, true, true, true, true, true, true, true, true, true] rfl (by kernel_rfl) (by kernel_rfl) (by kernel_rfl) (fun _ _ _ h => h) hS ?_ rfl ?_
    rotate_left
    · refine Or.inl ⟨rfl, fun W hW => ?_⟩
      dsimp only at hW
      have hx0 := (hW.cell (p := ⟨w.heap.size, 0, none⟩) (by simp)).trans hc0
      go_simp
      try rfl
    try simp only [Act.put, List.setIfInBounds_toArray, List.set_cons_zero, List.set_cons_succ]
    refine anyH_forget (F := (fun W => Below (w.heap.size + 1) (w.alloc (.cells #[.int .i64 8, .int .i64 size, .int .u32 addr, .bool idx, .int .u32 data, .int .i64 to, .int .i64 k, .int .i64 ix, .int .i64 wo, .int .i64 li, .bool on, .int .i64 rw, .int .u32 rf, .int .u32 rt, .bool rd, .bool wr, .int .i64 rk, .bool lk] 33)) W ∧ W.heap[w.heap.size + 1]? = some (.cells #[.string ⟨#[109, 97, 115, 107]⟩, .func (.func 111) #[] #[]] 83))) ⟨hS, setRow_heap _ _ _ _ _ _ (by (try simp only [alloc_drew, heap_drew]; first | exact heap_alloc_new _ _ | exact hp1 _ _ _ | exact hp2 _ _ _ _ | exact hp3 _ _ _ _ _ | exact hq1 _ _ _ | exact hq2 _ _ _ _ | exact hq3 _ _ _ _ _ | exact hr2 _ _ _ _ | exact hr3 _ _ _ _ _ | (simp; done)))⟩ ?_
    rintro w5 ⟨hB5, hr5⟩
    refine wpAnyH_done (by kernel_rfl) ?_ _
    have hrow := (hB5.block w.heap.size (by omega)).trans hcl
    have hsz := hB5.size
    simp at hsz
    have hc5 := rowc hr5 1
    simp only [List.getElem?_cons_succ, List.getElem?_cons_zero] at hc5
    clear hS hr5 hc0 hcl
    go_wp2_with (first | (go_at_call 111; (with_reducible refine (shMask_any 8 size addr data to k ix wo li rw rf rt rk idx on rd wr lk _).mono ?_); rintro e w6 ⟨rfl, hb6⟩) | ((with_reducible refine wpl_load 33 _ rfl ?_ w.heap.size 0 ?_ _ _ (CellsAt.of_block hrow) Tryz.underlying33 rfl (by kernel_rfl) ?_); (· rfl); (· rfl)))
    go_ret
    exact ⟨rfl, ((Below.refl _ _).alloc (Nat.le_refl _) _).trans ((hB5.mono (by omega)).trans (hb6.mono (by omega)))⟩
set_option maxRecDepth 100000 in
set_option maxHeartbeats 1000000 in
theorem instr_9 (size addr data to k ix wo li rw rf rt rk : Int) (idx on rd wr lk : Bool) (w : World) :
    Calls Tryz.prog 15 #[.agg #[.int .i64 9, .int .i64 size, .int .u32 addr, .bool idx, .int .u32 data, .int .i64 to, .int .i64 k, .int .i64 ix, .int .i64 wo, .int .i64 li, .bool on, .int .i64 rw, .int .u32 rf, .int .u32 rt, .bool rd, .bool wr, .int .i64 rk, .bool lk]] w fun e w' => e = .returned (.bool (cmdRight ⟨k, ix, wo, li, ⟨on, rw, rf, rt, rd, wr, rk, lk⟩⟩ && insNone size addr idx data to .zero)) ∧ Below w.heap.size w w' := by
  have hc0 : (w.alloc (.cells #[.int .i64 9, .int .i64 size, .int .u32 addr, .bool idx, .int .u32 data, .int .i64 to, .int .i64 k, .int .i64 ix, .int .i64 wo, .int .i64 li, .bool on, .int .i64 rw, .int .u32 rf, .int .u32 rt, .bool rd, .bool wr, .int .i64 rk, .bool lk] 33)).cell? ⟨w.heap.size, 0, none⟩ = some (.int .i64 9) := by simp
  have hcl : (w.alloc (.cells #[.int .i64 9, .int .i64 size, .int .u32 addr, .bool idx, .int .u32 data, .int .i64 to, .int .i64 k, .int .i64 ix, .int .i64 wo, .int .i64 li, .bool on, .int .i64 rw, .int .u32 rf, .int .u32 rt, .bool rd, .bool wr, .int .i64 rk, .bool lk] 33)).heap[w.heap.size]? = some (.cells #[.int .i64 9, .int .i64 size, .int .u32 addr, .bool idx, .int .u32 data, .int .i64 to, .int .i64 k, .int .i64 ix, .int .i64 wo, .int .i64 li, .bool on, .int .i64 rw, .int .u32 rf, .int .u32 rt, .bool rd, .bool wr, .int .i64 rk, .bool lk] 33) := heap_alloc_new _ _
  go_enter Tryz.func15, Tryz.ntmps15
  go_wp2_with fail
  refine region_start (S := (fun W => Below (w.heap.size + 1) (w.alloc (.cells #[.int .i64 9, .int .i64 size, .int .u32 addr, .bool idx, .int .u32 data, .int .i64 to, .int .i64 k, .int .i64 ix, .int .i64 wo, .int .i64 li, .bool on, .int .i64 rw, .int .u32 rf, .int .u32 rt, .bool rd, .bool wr, .int .i64 rk, .bool lk] 33)) W)) 10 rfl #[false, false, false, false, false, false, false, false, false, false] rfl (by kernel_rfl) ?_
  refine region_s ?_ ?_
  · (show Below _ _ _; repeat (first | exact Below.refl _ _ | assumption | refine Below.drew ?_ | refine Below.alloc ?_ (by first | omega | (simp; done) | (simp; omega) | (simp [World.setCell]; omega)) _ | refine Below.setCell ?_ (by first | omega | (simp; done) | (simp; omega) | (simp [World.setCell]; omega)) _ | refine below_setRow ?_ (by first | omega | (simp; done) | (simp; omega) | (simp [World.setCell]; omega)) _ | (refine Below.trans ?_ (Below.mono (by assumption) (by first | omega | (simp; done) | (simp; omega) | (simp [World.setCell]; omega))))))
  intro hS
  refine region_take (i := 1) (oi := ⟨(some 7), (Op.fieldAddr 33 (Operand.tmp 1) 0), 0, _, _, none⟩) (v := ?_) #[false, true, false, false, false, false, false, false, false, false] rfl (by kernel_rfl) (by kernel_rfl) (by kernel_rfl) (fun _ _ _ h => h) hS ?_ rfl ?_
  rotate_left
  · refine Or.inl ⟨rfl, fun W hW => ?_⟩
    dsimp only at hW
    have hx0 := (hW.cell (p := ⟨w.heap.size, 0, none⟩) (by simp)).trans hc0
    go_simp
    try rfl
  try simp only [Act.put, List.setIfInBounds_toArray, List.set_cons_zero, List.set_cons_succ]
  refine region_take (i := 2) (oi := ⟨(some 8), (Op.load 23 (Operand.tmp 7)), 23, _, _, none⟩) (v := ?_) #[false, true, true, false, false, false, false, false, false, false] rfl (by kernel_rfl) (by kernel_rfl) (by kernel_rfl) (fun _ _ _ h => h) hS ?_ rfl ?_
  rotate_left
  · refine Or.inl ⟨rfl, fun W hW => ?_⟩
    dsimp only at hW
    have hx0 := (hW.cell (p := ⟨w.heap.size, 0, none⟩) (by simp)).trans hc0
    go_simp
    try rfl
  try simp only [Act.put, List.setIfInBounds_toArray, List.set_cons_zero, List.set_cons_succ]
  refine region_two (i := 0) (j := 7) (oi := ⟨(some 6), (Op.call { callee := (Callee.value (Operand.func 45)), args := #[], argTypes := #[] }), 85, _, _, none⟩) (oj := ⟨(some 3), (Op.alloc 83), 0, _, _, none⟩) #[true, true, true, false, false, false, false, false, false, false] #[false, true, true, false, false, false, false, true, false, false] rfl rfl (by kernel_rfl) rfl rfl rfl rfl ?_ ?_
  · intro K hK
    go_simp; refine (mapKinds_any _).mono ?_; rintro e w1 ⟨rfl, rfl⟩
    refine hK _ _ ⟨?_, fun hS => ?_⟩
    · (show Below _ _ _; repeat (first | exact Below.refl _ _ | assumption | refine Below.drew ?_ | refine Below.alloc ?_ (by first | omega | (simp; done) | (simp; omega) | (simp [World.setCell]; omega)) _ | refine Below.setCell ?_ (by first | omega | (simp; done) | (simp; omega) | (simp [World.setCell]; omega)) _ | refine below_setRow ?_ (by first | omega | (simp; done) | (simp; omega) | (simp [World.setCell]; omega)) _ | (refine Below.trans ?_ (Below.mono (by assumption) (by first | omega | (simp; done) | (simp; omega) | (simp [World.setCell]; omega))))))
    try simp only [Act.put, List.setIfInBounds_toArray, List.set_cons_zero, List.set_cons_succ]
    refine region_two (i := 3) (j := 7) (oi := ⟨(some 9), (Op.lookup 85 (Operand.tmp 6) (Operand.tmp 8) true), 84, _, _, none⟩) (oj := ⟨(some 3), (Op.alloc 83), 0, _, _, none⟩) #[true, true, true, true, false, false, false, false, false, false] #[true, true, true, false, false, false, false, true, false, false] rfl rfl (by kernel_rfl) rfl rfl rfl rfl ?_ ?_
    · intro K hK
      refine wp_lookK _ _ 9 (kindV [99, 111, 110, 102] 112) 8 _ rfl rfl rfl rfl ?_ ?_; (· (try simp only [alloc_drew, heap_drew]; first | exact heap_alloc_new _ _ | exact hp1 _ _ _ | exact hp2 _ _ _ _ | exact hp3 _ _ _ _ _ | exact hq1 _ _ _ | exact hq2 _ _ _ _ | exact hq3 _ _ _ _ _ | exact hr2 _ _ _ _ | exact hr3 _ _ _ _ _ | (simp; done)))
      refine hK _ _ ⟨?_, fun hS => ?_⟩
      · (show Below _ _ _; repeat (first | exact Below.refl _ _ | assumption | refine Below.drew ?_ | refine Below.alloc ?_ (by first | omega | (simp; done) | (simp; omega) | (simp [World.setCell]; omega)) _ | refine Below.setCell ?_ (by first | omega | (simp; done) | (simp; omega) | (simp [World.setCell]; omega)) _ | refine below_setRow ?_ (by first | omega | (simp; done) | (simp; omega) | (simp [World.setCell]; omega)) _ | (refine Below.trans ?_ (Below.mono (by assumption) (by first | omega | (simp; done) | (simp; omega) | (simp [World.setCell]; omega))))))
      try simp only [Act.put, List.setIfInBounds_toArray, List.set_cons_zero, List.set_cons_succ]
      refine region_take (i := 4) (oi := ⟨(some 5), (Op.move (Operand.tmp 9)), 84, _, _, none⟩) (v := ?_) #[true, true, true, true, true, false, false, false, false, false] rfl (by kernel_rfl) (by kernel_rfl) (by kernel_rfl) (fun _ _ _ h => h) hS ?_ rfl ?_
      rotate_left
      · refine Or.inl ⟨rfl, fun W hW => ?_⟩
        dsimp only at hW
        have hx0 := (hW.cell (p := ⟨w.heap.size, 0, none⟩) (by simp)).trans hc0
        go_simp
        try rfl
      try simp only [Act.put, List.setIfInBounds_toArray, List.set_cons_zero, List.set_cons_succ]
      refine region_take (i := 5) (oi := ⟨(some 10), (Op.extract (Operand.tmp 5) 0), 83, _, _, none⟩) (v := ?_) #[true, true, true, true, true, true, false, false, false, false] rfl (by kernel_rfl) (by kernel_rfl) (by kernel_rfl) (fun _ _ _ h => h) hS ?_ rfl ?_
      rotate_left
      · refine Or.inl ⟨rfl, fun W hW => ?_⟩
        dsimp only at hW
        have hx0 := (hW.cell (p := ⟨w.heap.size, 0, none⟩) (by simp)).trans hc0
        go_simp
        try rfl
      try simp only [Act.put, List.setIfInBounds_toArray, List.set_cons_zero, List.set_cons_succ]
      refine region_take (i := 6) (oi := ⟨(some 11), (Op.extract (Operand.tmp 5) 1), 4, _, _, none⟩) (v := ?_) #[true, true, true, true, true, true, true, false, false, false] rfl (by kernel_rfl) (by kernel_rfl) (by kernel_rfl) (fun _ _ _ h => h) hS ?_ rfl ?_
      rotate_left
      · refine Or.inl ⟨rfl, fun W hW => ?_⟩
        dsimp only at hW
        have hx0 := (hW.cell (p := ⟨w.heap.size, 0, none⟩) (by simp)).trans hc0
        go_simp
        try rfl
      try simp only [Act.put, List.setIfInBounds_toArray, List.set_cons_zero, List.set_cons_succ]
      refine region_op (i := 7) (oi := ⟨(some 3), (Op.alloc 83), 0, _, _, none⟩) #[true, true, true, true, true, true, true, true, false, false] rfl (by kernel_rfl) rfl rfl ?_
      intro K hK
      go_simp
      refine hK _ _ ⟨?_, fun hS => ?_⟩
      · (show Below _ _ _; repeat (first | exact Below.refl _ _ | assumption | refine Below.drew ?_ | refine Below.alloc ?_ (by first | omega | (simp; done) | (simp; omega) | (simp [World.setCell]; omega)) _ | refine Below.setCell ?_ (by first | omega | (simp; done) | (simp; omega) | (simp [World.setCell]; omega)) _ | refine below_setRow ?_ (by first | omega | (simp; done) | (simp; omega) | (simp [World.setCell]; omega)) _ | (refine Below.trans ?_ (Below.mono (by assumption) (by first | omega | (simp; done) | (simp; omega) | (simp [World.setCell]; omega))))))
      try simp only [Act.put, List.setIfInBounds_toArray, List.set_cons_zero, List.set_cons_succ]
      refine region_op (i := 8) (oi := ⟨none, (Op.store 83 (Operand.tmp 3) (Operand.tmp 10)), 0, _, _, none⟩) #[true, true, true, true, true, true, true, true, true, false] rfl (by kernel_rfl) rfl rfl ?_
      intro K hK
      refine wp_store 83 _ _ rfl _ 0 83 [.string ⟨#[]⟩, .nilFunc] [.string ⟨#[99, 111, 110, 102]⟩, .func (.func 112) #[] #[]] ?_ rfl rfl (by kernel_rfl) (by simp) rfl [.string ⟨#[99, 111, 110, 102]⟩, .func (.func 112) #[] #[]] rfl ?_; (· (try simp only [alloc_drew, heap_drew]; first | exact heap_alloc_new _ _ | exact hp1 _ _ _ | exact hp2 _ _ _ _ | exact hp3 _ _ _ _ _ | exact hq1 _ _ _ | exact hq2 _ _ _ _ | exact hq3 _ _ _ _ _ | exact hr2 _ _ _ _ | exact hr3 _ _ _ _ _ | (simp; done)))
      refine hK _ _ ⟨?_, fun hS => ?_⟩
      · (show Below _ _ _; repeat (first | exact Below.refl _ _ | assumption | refine Below.drew ?_ | refine Below.alloc ?_ (by first | omega | (simp; done) | (simp; omega) | (simp [World.setCell]; omega)) _ | refine Below.setCell ?_ (by first | omega | (simp; done) | (simp; omega) | (simp [World.setCell]; omega)) _ | refine below_setRow ?_ (by first | omega | (simp; done) | (simp; omega) | (simp [World.setCell]; omega)) _ | (refine Below.trans ?_ (Below.mono (by assumption) (by first | omega | (simp; done) | (simp; omega) | (simp [World.setCell]; omega))))))
      try simp only [Act.put, List.setIfInBounds_toArray, List.set_cons_zero, List.set_cons_succ]
      refine region_take (i := 9) (oi := ⟨(some 4), (Op.assign (Operand.tmp 11)), 4, _, _, none⟩) (v := ?_) #[true, true, true, true, true, true, true, true, true, true] rfl (by kernel_rfl) (by kernel_rfl) (by kernel_rfl) (fun _ _ _ h => h) hS ?_ rfl ?_
      rotate_left
      · refine Or.inl ⟨rfl, fun W hW => ?_⟩
        dsimp only at hW
        have hx0 := (hW.cell (p := ⟨w.heap.size, 0, none⟩) (by simp)).trans hc0
        go_simp
        try rfl
      try simp only [Act.put, List.setIfInBounds_toArray, List.set_cons_zero, List.set_cons_succ]
      refine anyH_forget (F := (fun W => Below (w.heap.size + 1) (w.alloc (.cells #[.int .i64 9, .int .i64 size, .int .u32 addr, .bool idx, .int .u32 data, .int .i64 to, .int .i64 k, .int .i64 ix, .int .i64 wo, .int .i64 li, .bool on, .int .i64 rw, .int .u32 rf, .int .u32 rt, .bool rd, .bool wr, .int .i64 rk, .bool lk] 33)) W ∧ W.heap[w.heap.size + 1 + 1]? = some (.cells #[.string ⟨#[99, 111, 110, 102]⟩, .func (.func 112) #[] #[]] 83))) ⟨hS, setRow_heap _ _ _ _ _ _ (by (try simp only [alloc_drew, heap_drew]; first | exact heap_alloc_new _ _ | exact hp1 _ _ _ | exact hp2 _ _ _ _ | exact hp3 _ _ _ _ _ | exact hq1 _ _ _ | exact hq2 _ _ _ _ | exact hq3 _ _ _ _ _ | exact hr2 _ _ _ _ | exact hr3 _ _ _ _ _ | (simp; done)))⟩ ?_
      rintro w5 ⟨hB5, hr5⟩
      refine wpAnyH_done (by kernel_rfl) ?_ _
      have hrow := (hB5.block w.heap.size (by omega)).trans hcl
      have hsz := hB5.size
      simp at hsz
      have hc5 := rowc hr5 1
      simp only [List.getElem?_cons_succ, List.getElem?_cons_zero] at hc5
      clear hS hr5 hc0 hcl
      go_wp2_with (first | (go_at_call 112; (with_reducible refine (shConf_any 9 size addr data to k ix wo li rw rf rt rk idx on rd wr lk _).mono ?_); rintro e w6 ⟨rfl, hb6⟩) | ((with_reducible refine wpl_load 33 _ rfl ?_ w.heap.size 0 ?_ _ _ (CellsAt.of_block hrow) Tryz.underlying33 rfl (by kernel_rfl) ?_); (· rfl); (· rfl)))
      go_ret
      exact ⟨rfl, ((Below.refl _ _).alloc (Nat.le_refl _) _).trans ((hB5.mono (by omega)).trans (hb6.mono (by omega)))⟩
    · intro K hK
      go_simp
      refine hK _ _ ⟨?_, fun hS => ?_⟩
      · (show Below _ _ _; repeat (first | exact Below.refl _ _ | assumption | refine Below.drew ?_ | refine Below.alloc ?_ (by first | omega | (simp; done) | (simp; omega) | (simp [World.setCell]; omega)) _ | refine Below.setCell ?_ (by first | omega | (simp; done) | (simp; omega) | (simp [World.setCell]; omega)) _ | refine below_setRow ?_ (by first | omega | (simp; done) | (simp; omega) | (simp [World.setCell]; omega)) _ | (refine Below.trans ?_ (Below.mono (by assumption) (by first | omega | (simp; done) | (simp; omega) | (simp [World.setCell]; omega))))))
      try simp only [Act.put, List.setIfInBounds_toArray, List.set_cons_zero, List.set_cons_succ]
      refine region_op (i := 3) (oi := ⟨(some 9), (Op.lookup 85 (Operand.tmp 6) (Operand.tmp 8) true), 84, _, _, none⟩) #[true, true, true, true, false, false, false, true, false, false] rfl (by kernel_rfl) rfl rfl ?_
      intro K hK
      refine wp_lookK _ _ 9 (kindV [99, 111, 110, 102] 112) 8 _ rfl rfl rfl rfl ?_ ?_; (· (try simp only [alloc_drew, heap_drew]; first | exact heap_alloc_new _ _ | exact hp1 _ _ _ | exact hp2 _ _ _ _ | exact hp3 _ _ _ _ _ | exact hq1 _ _ _ | exact hq2 _ _ _ _ | exact hq3 _ _ _ _ _ | exact hr2 _ _ _ _ | exact hr3 _ _ _ _ _ | (simp; done)))
      refine hK _ _ ⟨?_, fun hS => ?_⟩
      · (show Below _ _ _; repeat (first | exact Below.refl _ _ | assumption | refine Below.drew ?_ | refine Below.alloc ?_ (by first | omega | (simp; done) | (simp; omega) | (simp [World.setCell]; omega)) _ | refine Below.setCell ?_ (by first | omega | (simp; done) | (simp; omega) | (simp [World.setCell]; omega)) _ | refine below_setRow ?_ (by first | omega | (simp; done) | (simp; omega) | (simp [World.setCell]; omega)) _ | (refine Below.trans ?_ (Below.mono (by assumption) (by first | omega | (simp; done) | (simp; omega) | (simp [World.setCell]; omega))))))
      try simp only [Act.put, List.setIfInBounds_toArray, List.set_cons_zero, List.set_cons_succ]
      refine region_take (i := 4) (oi := ⟨(some 5), (Op.move (Operand.tmp 9)), 84, _, _, none⟩) (v := ?_) #[true, true, true, true, true, false, false, true, false, false] rfl (by kernel_rfl) (by kernel_rfl) (by kernel_rfl) (fun _ _ _ h => h) hS ?_ rfl ?_
      rotate_left
      · refine Or.inl ⟨rfl, fun W hW => ?_⟩
        dsimp only at hW
        have hx0 := (hW.cell (p := ⟨w.heap.size, 0, none⟩) (by simp)).trans hc0
        go_simp
        try rfl
      try simp only [Act.put, List.setIfInBounds_toArray, List.set_cons_zero, List.set_cons_succ]
      refine region_take (i := 5) (oi := ⟨(some 10), (Op.extract (Operand.tmp 5) 0), 83, _, _, none⟩) (v := ?_) #[true, true, true, true, true, true, false, true, false, false] rfl (by kernel_rfl) (by kernel_rfl) (by kernel_rfl) (fun _ _ _ h => h) hS ?_ rfl ?_
      rotate_left
      · refine Or.inl ⟨rfl, fun W hW => ?_⟩
        dsimp only at hW
        have hx0 := (hW.cell (p := ⟨w.heap.size, 0, none⟩) (by simp)).trans hc0
        go_simp
        try rfl
      try simp only [Act.put, List.setIfInBounds_toArray, List.set_cons_zero, List.set_cons_succ]
      refine region_take (i := 6) (oi := ⟨(some 11), (Op.extract (Operand.tmp 5) 1), 4, _, _, none⟩) (v := ?_) #[true, true, true, true, true, true, true, true, false, false] rfl (by kernel_rfl) (by kernel_rfl) (by kernel_rfl) (fun _ _ _ h => h) hS ?_ rfl ?_
      rotate_left
      · refine Or.inl ⟨rfl, fun W hW => ?_⟩
        dsimp only at hW
        have hx0 := (hW.cell (p := ⟨w.heap.size, 0, none⟩) (by simp)).trans hc0
        go_simp
        try rfl
      try simp only [Act.put, List.setIfInBounds_toArray, List.set_cons_zero, List.set_cons_succ]
      refine region_op (i := 8) (oi := ⟨none, (Op.store 83 (Operand.tmp 3) (Operand.tmp 10)), 0, _, _, none⟩) #[true, true, true, true, true, true, true, true, true, false] rfl (by kernel_rfl) rfl rfl ?_
      intro K hK
      refine wp_store 83 _ _ rfl _ 0 83 [.string ⟨#[]⟩, .nilFunc] [.string ⟨#[99, 111, 110, 102]⟩, .func (.func 112) #[] #[]] ?_ rfl rfl (by kernel_rfl) (by simp) rfl [.string ⟨#[99, 111, 110, 102]⟩, .func (.func 112) #[] #[]] rfl ?_; (· (try simp only [alloc_drew, heap_drew]; first | exact heap_alloc_new _ _ | exact hp1 _ _ _ | exact hp2 _ _ _ _ | exact hp3 _ _ _ _ _ | exact hq1 _ _ _ | exact hq2 _ _ _ _ | exact hq3 _ _ _ _ _ | exact hr2 _ _ _ _ | exact hr3 _ _ _ _ _ | (simp; done)))
      refine hK _ _ ⟨?_, fun hS => ?_⟩
      · (show Below _ _ _; repeat (first | exact Below.refl _ _ | assumption | refine Below.drew ?_ | refine Below.alloc ?_ (by first | omega | (simp; done) | (simp; omega) | (simp [World.setCell]; omega)) _ | refine Below.setCell ?_ (by first | omega | (simp; done) | (simp; omega) | (simp [World.setCell]; omega)) _ | refine below_setRow ?_ (by first | omega | (simp; done) | (simp; omega) | (simp [World.setCell]; omega)) _ | (refine Below.trans ?_ (Below.mono (by assumption) (by first | omega | (simp; done) | (simp; omega) | (simp [World.setCell]; omega))))))
      try simp only [Act.put, List.setIfInBounds_toArray, List.set_cons_zero, List.set_cons_succ]
      refine region_take (i := 9) (oi := ⟨(some 4), (Op.assign (Operand.tmp 11)), 4, _, _, none⟩) (v := ?_) #[true, true, true, true, true, true, true, true, true, true] rfl (by kernel_rfl) (by kernel_rfl) (by kernel_rfl) (fun _ _ _ h => h) hS ?_ rfl ?_
      rotate_left
      · refine Or.inl ⟨rfl, fun W hW => ?_⟩
        dsimp only at hW
        have hx0 := (hW.cell (p := ⟨w.heap.size, 0, none⟩) (by simp)).trans hc0
        go_simp
        try rfl
      try simp only [Act.put, List.setIfInBounds_toArray, List.set_cons_zero, List.set_cons_succ]
      refine anyH_forget (F := (fun W => Below (w.heap.size + 1) (w.alloc (.cells #[.int .i64 9, .int .i64 size, .int .u32 addr, .bool idx, .int .u32 data, .int .i64 to, .int .i64 k, .int .i64 ix, .int .i64 wo, .int .i64 li, .bool on, .int .i64 rw, .int .u32 rf, .int .u32 rt, .bool rd, .bool wr, .int .i64 rk, .bool lk] 33)) W ∧ W.heap[w.heap.size + 1 + 1]? = some (.cells #[.string ⟨#[99, 111, 110, 102]⟩, .func (.func 112) #[] #[]] 83))) ⟨hS, setRow_heap _ _ _ _ _ _ (by (try simp only [alloc_drew, heap_drew]; first | exact heap_alloc_new _ _ | exact hp1 _ _ _ | exact hp2 _ _ _ _ | exact hp3 _ _ _ _ _ | exact hq1 _ _ _ | exact hq2 _ _ _ _ | exact hq3 _ _ _ _ _ | exact hr2 _ _ _ _ | exact hr3 _ _ _ _ _ | (simp; done)))⟩ ?_
      rintro w5 ⟨hB5, hr5⟩
      refine wpAnyH_done (by kernel_rfl) ?_ _
      have hrow := (hB5.block w.heap.size (by omega)).trans hcl
      have hsz := hB5.size
      simp at hsz
      have hc5 := rowc hr5 1
      simp only [List.getElem?_cons_succ, List.getElem?_cons_zero] at hc5
      clear hS hr5 hc0 hcl
      go_wp2_with (first | (go_at_call 112; (with_reducible refine (shConf_any 9 size addr data to k ix wo li rw rf rt rk idx on rd wr lk _).mono ?_); rintro e w6 ⟨rfl, hb6⟩) | ((with_reducible refine wpl_load 33 _ rfl ?_ w.heap.size 0 ?_ _ _ (CellsAt.of_block hrow) Tryz.underlying33 rfl (by kernel_rfl) ?_); (· rfl); (· rfl)))
      go_ret
      exact ⟨rfl, ((Below.refl _ _).alloc (Nat.le_refl _) _).trans ((hB5.mono (by omega)).trans (hb6.mono (by omega)))⟩
  · intro K hK
    go_simp
    refine hK _ _ ⟨?_, fun hS => ?_⟩
    · (show Below _ _ _; repeat (first | exact Below.refl _ _ | assumption | refine Below.drew ?_ | refine Below.alloc ?_ (by first | omega | (simp; done) | (simp; omega) | (simp [World.setCell]; omega)) _ | refine Below.setCell ?_ (by first | omega | (simp; done) | (simp; omega) | (simp [World.setCell]; omega)) _ | refine below_setRow ?_ (by first | omega | (simp; done) | (simp; omega) | (simp [World.setCell]; omega)) _ | (refine Below.trans ?_ (Below.mono (by assumption) (by first | omega | (simp; done) | (simp; omega) | (simp [World.setCell]; omega))))))
    try simp only [Act.put, List.setIfInBounds_toArray, List.set_cons_zero, List.set_cons_succ]
    refine region_op (i := 0) (oi := ⟨(some 6), (Op.call { callee := (Callee.value (Operand.func 45)), args := #[], argTypes := #[] }), 85, _, _, none⟩) #[true, true, true, false, false, false, false, true, false, false] rfl (by kernel_rfl) rfl rfl ?_
    intro K hK
    go_simp; refine (mapKinds_any _).mono ?_; rintro e w1 ⟨rfl, rfl⟩
    refine hK _ _ ⟨?_, fun hS => ?_⟩
    · (show Below _ _ _; repeat (first | exact Below.refl _ _ | assumption | refine Below.drew ?_ | refine Below.alloc ?_ (by first | omega | (simp; done) | (simp; omega) | (simp [World.setCell]; omega)) _ | refine Below.setCell ?_ (by first | omega | (simp; done) | (simp; omega) | (simp [World.setCell]; omega)) _ | refine below_setRow ?_ (by first | omega | (simp; done) | (simp; omega) | (simp [World.setCell]; omega)) _ | (refine Below.trans ?_ (Below.mono (by assumption) (by first | omega | (simp; done) | (simp; omega) | (simp [World.setCell]; omega))))))
    try simp only [Act.put, List.setIfInBounds_toArray, List.set_cons_zero, List.set_cons_succ]
    refine region_op (i := 3) (oi := ⟨(some 9), (Op.lookup 85 (Operand.tmp 6) (Operand.tmp 8) true), 84, _, _, none⟩) #[true, true, true, true, false, false, false, true, false, false] rfl (by kernel_rfl) rfl rfl ?_
    intro K hK
    refine wp_lookK _ _ 9 (kindV [99, 111, 110, 102] 112) 8 _ rfl rfl rfl rfl ?_ ?_; (· (try simp only [alloc_drew, heap_drew]; first | exact heap_alloc_new _ _ | exact hp1 _ _ _ | exact hp2 _ _ _ _ | exact hp3 _ _ _ _ _ | exact hq1 _ _ _ | exact hq2 _ _ _ _ | exact hq3 _ _ _ _ _ | exact hr2 _ _ _ _ | exact hr3 _ _ _ _ _ | (simp; done)))
    refine hK _ _ ⟨?_, fun hS => ?_⟩
    · (show Below _ _ _; repeat (first | exact Below.refl _ _ | assumption | refine Below.drew ?_ | refine Below.alloc ?_ (by first | omega | (simp; done) | (simp; omega) | (simp [World.setCell]; omega)) _ | refine Below.setCell ?_ (by first | omega | (simp; done) | (simp; omega) | (simp [World.setCell]; omega)) _ | refine below_setRow ?_ (by first | omega | (simp; done) | (simp; omega) | (simp [World.setCell]; omega)) _ | (refine Below.trans ?_ (Below.mono (by assumption) (by first | omega | (simp; done) | (simp; omega) | (simp [World.setCell]; omega))))))
    try simp only [Act.put, List.setIfInBounds_toArray, List.set_cons_zero, List.set_cons_succ]
    refine region_take (i := 4) (oi := ⟨(some 5), (Op.move (Operand.tmp 9)), 84, _, _, none⟩) (v := ?_) #[true, true, true, true, true, false, false, true, false, false] rfl (by kernel_rfl) (by kernel_rfl) (by kernel_rfl) (fun _ _ _ h => h) hS ?_ rfl ?_
    rotate_left
    · refine Or.inl ⟨rfl, fun W hW => ?_⟩
      dsimp only at hW
      have hx0 := (hW.cell (p := ⟨w.heap.size, 0, none⟩) (by simp)).trans hc0
      go_simp
      try rfl
    try simp only [Act.put, List.setIfInBounds_toArray, List.set_cons_zero, List.set_cons_succ]
    refine region_take (i := 5) (oi := ⟨(some 10), (Op.extract (Operand.tmp 5) 0), 83, _, _, none⟩) (v := ?_) #[true, true, true, true, true, true, false, true, false, false] rfl (by kernel_rfl) (by kernel_rfl) (by kernel_rfl) (fun _ _ _ h => h) hS ?_ rfl ?_
    rotate_left
    · refine Or.inl ⟨rfl, fun W hW => ?_⟩
      dsimp only at hW
      have hx0 := (hW.cell (p := ⟨w.heap.size, 0, none⟩) (by simp)).trans hc0
      go_simp
      try rfl
    try simp only [Act.put, List.setIfInBounds_toArray, List.set_cons_zero, List.set_cons_succ]
    refine region_take (i := 6) (oi := ⟨(some 11), (Op.extract (Operand.tmp 5) 1), 4, _, _, none⟩) (v := ?_) #[true, true, true, true, true, true, true, true, false, false] rfl (by kernel_rfl) (by kernel_rfl) (by kernel_rfl) (fun _ _ _ h => h) hS ?_ rfl ?_
    rotate_left
    · refine Or.inl ⟨rfl, fun W hW => ?_⟩
      dsimp only at hW
      have hx0 := (hW.cell (p := ⟨w.heap.size, 0, none⟩) (by simp)).trans hc0
      go_simp
      try rfl
    try simp only [Act.put, List.setIfInBounds_toArray, List.set_cons_zero, List.set_cons_succ]
    refine region_op (i := 8) (oi := ⟨none, (Op.store 83 (Operand.tmp 3) (Operand.tmp 10)), 0, _, _, none⟩) #[true, true, true, true, true, true, true, true, true, false] rfl (by kernel_rfl) rfl rfl ?_
    intro K hK
    refine wp_store 83 _ _ rfl _ 0 83 [.string ⟨#[]⟩, .nilFunc] [.string ⟨#[99, 111, 110, 102]⟩, .func (.func 112) #[] #[]] ?_ rfl rfl (by kernel_rfl) (by simp) rfl [.string ⟨#[99, 111, 110, 102]⟩, .func (.func 112) #[] #[]] rfl ?_; (· (try simp only [alloc_drew, heap_drew]; first | exact heap_alloc_new _ _ | exact hp1 _ _ _ | exact hp2 _ _ _ _ | exact hp3 _ _ _ _ _ | exact hq1 _ _ _ | exact hq2 _ _ _ _ | exact hq3 _ _ _ _ _ | exact hr2 _ _ _ _ | exact hr3 _ _ _ _ _ | (simp; done)))
    refine hK _ _ ⟨?_, fun hS => ?_⟩
    · (show Below _ _ _; repeat (first | exact Below.refl _ _ | assumption | refine Below.drew ?_ | refine Below.alloc ?_ (by first | omega | (simp; done) | (simp; omega) | (simp [World.setCell]; omega)) _ | refine Below.setCell ?_ (by first | omega | (simp; done) | (simp; omega) | (simp [World.setCell]; omega)) _ | refine below_setRow ?_ (by first | omega | (simp; done) | (simp; omega) | (simp [World.setCell]; omega)) _ | (refine Below.trans ?_ (Below.mono (by assumption) (by first | omega | (simp; done) | (simp; omega) | (simp [World.setCell]; omega))))))
    try simp only [Act.put, List.setIfInBounds_toArray, List.set_cons_zero, List.set_cons_succ]
    refine region_take (i := 9) (oi := ⟨(some 4), (Op.assign (Operand.tmp 11)), 4, _, _, none⟩) (v := ?_) #[true, true, true, true, true, true, true, true, true, true] rfl (by kernel_rfl) (by kernel_rfl) (by kernel_rfl) (fun _ _ _ h => h) hS ?_ rfl ?_
    rotate_left
    · refine Or.inl ⟨rfl, fun W hW => ?_⟩
      dsimp only at hW
      have hx0 := (hW.cell (p := ⟨w.heap.size, 0, none⟩) (by simp)).trans hc0
      go_simp
      try rfl
    try simp only [Act.put, List.setIfInBounds_toArray, List.set_cons_zero, List.set_cons_succ]
    refine anyH_forget (F := (fun W => Below (w.heap.size + 1) (w.alloc (.cells #[.int .i64 9, .int .i64 size, .int .u32 addr, .bool idx, .int .u32 data, .int .i64 to, .int .i64 k, .int .i64 ix, .int .i64 wo, .int .i64 li, .bool on, .int .i64 rw, .int .u32 rf, .int .u32 rt, .bool rd, .bool wr, .int .i64 rk, .bool lk] 33)) W ∧ W.heap[w.heap.size + 1]? = some (.cells #[.string ⟨#[99, 111, 110, 102]⟩, .func (.func 112) #[] #[]] 83))) ⟨hS, setRow_heap _ _ _ _ _ _ (by (try simp only [alloc_drew, heap_drew]; first | exact heap_alloc_new _ _ | exact hp1 _ _ _ | exact hp2 _ _ _ _ | exact hp3 _ _ _ _ _ | exact hq1 _ _ _ | exact hq2 _ _ _ _ | exact hq3 _ _ _ _ _ | exact hr2 _ _ _ _ | exact hr3 _ _ _ _ _ | (simp; done)))⟩ ?_
    rintro w5 ⟨hB5, hr5⟩
    refine wpAnyH_done (by kernel_rfl) ?_ _
    have hrow := (hB5.block w.heap.size (by omega)).trans hcl
    have hsz := hB5.size
    simp at hsz
    have hc5 := rowc hr5 1
    simp only [List.getElem?_cons_succ, List.getElem?_cons_zero] at hc5
    clear hS hr5 hc0 hcl
    go_wp2_with (first | (go_at_call 112; (with_reducible refine (shConf_any 9 size addr data to k ix wo li rw rf rt rk idx on rd wr lk _).mono ?_); rintro e w6 ⟨rfl, hb6⟩) | ((with_reducible refine wpl_load 33 _ rfl ?_ w.heap.size 0 ?_ _ _ (CellsAt.of_block hrow) Tryz.underlying33 rfl (by kernel_rfl) ?_); (· rfl); (· rfl)))
    go_ret
    exact ⟨rfl, ((Below.refl _ _).alloc (Nat.le_refl _) _).trans ((hB5.mono (by omega)).trans (hb6.mono (by omega)))⟩
set_option maxRecDepth 100000 in
set_option maxHeartbeats 1000000 in
theorem instr_10 (size addr data to k ix wo li rw rf rt rk : Int) (idx on rd wr lk : Bool) (w : World) :
    Calls Tryz.prog 15 #[.agg #[.int .i64 10, .int .i64 size, .int .u32 addr, .bool idx, .int .u32 data, .int .i64 to, .int .i64 k, .int .i64 ix, .int .i64 wo, .int .i64 li, .bool on, .int .i64 rw, .int .u32 rf, .int .u32 rt, .bool rd, .bool wr, .int .i64 rk, .bool lk]] w fun e w' => e = .returned (.bool (insNone size addr idx data to ⟨k, ix, wo, li, ⟨on, rw, rf, rt, rd, wr, rk, lk⟩⟩)) ∧ Below w.heap.size w w' := by
  have hc0 : (w.alloc (.cells #[.int .i64 10, .int .i64 size, .int .u32 addr, .bool idx, .int .u32 data, .int .i64 to, .int .i64 k, .int .i64 ix, .int .i64 wo, .int .i64 li, .bool on, .int .i64 rw, .int .u32 rf, .int .u32 rt, .bool rd, .bool wr, .int .i64 rk, .bool lk] 33)).cell? ⟨w.heap.size, 0, none⟩ = some (.int .i64 10) := by simp
  have hcl : (w.alloc (.cells #[.int .i64 10, .int .i64 size, .int .u32 addr, .bool idx, .int .u32 data, .int .i64 to, .int .i64 k, .int .i64 ix, .int .i64 wo, .int .i64 li, .bool on, .int .i64 rw, .int .u32 rf, .int .u32 rt, .bool rd, .bool wr, .int .i64 rk, .bool lk] 33)).heap[w.heap.size]? = some (.cells #[.int .i64 10, .int .i64 size, .int .u32 addr, .bool idx, .int .u32 data, .int .i64 to, .int .i64 k, .int .i64 ix, .int .i64 wo, .int .i64 li, .bool on, .int .i64 rw, .int .u32 rf, .int .u32 rt, .bool rd, .bool wr, .int .i64 rk, .bool lk] 33) := heap_alloc_new _ _
  go_enter Tryz.func15, Tryz.ntmps15
  go_wp2_with fail
  refine region_start (S := (fun W => Below (w.heap.size + 1) (w.alloc (.cells #[.int .i64 10, .int .i64 size, .int .u32 addr, .bool idx, .int .u32 data, .int .i64 to, .int .i64 k, .int .i64 ix, .int .i64 wo, .int .i64 li, .bool on, .int .i64 rw, .int .u32 rf, .int .u32 rt, .bool rd, .bool wr, .int .i64 rk, .bool lk] 33)) W)) 10 rfl #[false, false, false, false, false, false, false, false, false, false] rfl (by kernel_rfl) ?_
  refine region_s ?_ ?_
  · (show Below _ _ _; repeat (first | exact Below.refl _ _ | assumption | refine Below.drew ?_ | refine Below.alloc ?_ (by first | omega | (simp; done) | (simp; omega) | (simp [World.setCell]; omega)) _ | refine Below.setCell ?_ (by first | omega | (simp; done) | (simp; omega) | (simp [World.setCell]; omega)) _ | refine below_setRow ?_ (by first | omega | (simp; done) | (simp; omega) | (simp [World.setCell]; omega)) _ | (refine Below.trans ?_ (Below.mono (by assumption) (by first | omega | (simp; done) | (simp; omega) | (simp [World.setCell]; omega))))))
  intro hS
  refine region_take (i := 1) (oi := ⟨(some 7), (Op.fieldAddr 33 (Operand.tmp 1) 0), 0, _, _, none⟩) (v := ?_) #[false, true, false, false, false, false, false, false, false, false] rfl (by kernel_rfl) (by kernel_rfl) (by kernel_rfl) (fun _ _ _ h => h) hS ?_ rfl ?_
  rotate_left
  · refine Or.inl ⟨rfl, fun W hW => ?_⟩
    dsimp only at hW
    have hx0 := (hW.cell (p := ⟨w.heap.size, 0, none⟩) (by simp)).trans hc0
    go_simp
    try rfl
  try simp only [Act.put, List.setIfInBounds_toArray, List.set_cons_zero, List.set_cons_succ]
  refine region_take (i := 2) (oi := ⟨(some 8), (Op.load 23 (Operand.tmp 7)), 23, _, _, none⟩) (v := ?_) #[false, true, true, false, false, false, false, false, false, false] rfl (by kernel_rfl) (by kernel_rfl) (by kernel_rfl) (fun _ _ _ h => h) hS ?_ rfl ?_
  rotate_left
  · refine Or.inl ⟨rfl, fun W hW => ?_⟩
    dsimp only at hW
    have hx0 := (hW.cell (p := ⟨w.heap.size, 0, none⟩) (by simp)).trans hc0
    go_simp
    try rfl
  try simp only [Act.put, List.setIfInBounds_toArray, List.set_cons_zero, List.set_cons_succ]
  refine region_two (i := 0) (j := 7) (oi := ⟨(some 6), (Op.call { callee := (Callee.value (Operand.func 45)), args := #[], argTypes := #[] }), 85, _, _, none⟩) (oj := ⟨(some 3), (Op.alloc 83), 0, _, _, none⟩) #[true, true, true, false, false, false, false, false, false, false] #[false, true, true, false, false, false, false, true, false, false] rfl rfl (by kernel_rfl) rfl rfl rfl rfl ?_ ?_
  · intro K hK
    go_simp; refine (mapKinds_any _).mono ?_; rintro e w1 ⟨rfl, rfl⟩
    refine hK _ _ ⟨?_, fun hS => ?_⟩
    · (show Below _ _ _; repeat (first | exact Below.refl _ _ | assumption | refine Below.drew ?_ | refine Below.alloc ?_ (by first | omega | (simp; done) | (simp; omega) | (simp [World.setCell]; omega)) _ | refine Below.setCell ?_ (by first | omega | (simp; done) | (simp; omega) | (simp [World.setCell]; omega)) _ | refine below_setRow ?_ (by first | omega | (simp; done) | (simp; omega) | (simp [World.setCell]; omega)) _ | (refine Below.trans ?_ (Below.mono (by assumption) (by first | omega | (simp; done) | (simp; omega) | (simp [World.setCell]; omega))))))
    try simp only [Act.put, List.setIfInBounds_toArray, List.set_cons_zero, List.set_cons_succ]
    refine region_two (i := 3) (j := 7) (oi := ⟨(some 9), (Op.lookup 85 (Operand.tmp 6) (Operand.tmp 8) true), 84, _, _, none⟩) (oj := ⟨(some 3), (Op.alloc 83), 0, _, _, none⟩) #[true, true, true, true, false, false, false, false, false, false] #[true, true, true, false, false, false, false, true, false, false] rfl rfl (by kernel_rfl) rfl rfl rfl rfl ?_ ?_
    · intro K hK
      refine wp_lookK _ _ 10 (kindV [104, 97, 108, 116] 107) 9 _ rfl rfl rfl rfl ?_ ?_; (· (try simp only [alloc_drew, heap_drew]; first | exact heap_alloc_new _ _ | exact hp1 _ _ _ | exact hp2 _ _ _ _ | exact hp3 _ _ _ _ _ | exact hq1 _ _ _ | exact hq2 _ _ _ _ | exact hq3 _ _ _ _ _ | exact hr2 _ _ _ _ | exact hr3 _ _ _ _ _ | (simp; done)))
      refine hK _ _ ⟨?_, fun hS => ?_⟩
      · (show Below _ _ _; repeat (first | exact Below.refl _ _ | assumption | refine Below.drew ?_ | refine Below.alloc ?_ (by first | omega | (simp; done) | (simp; omega) | (simp [World.setCell]; omega)) _ | refine Below.setCell ?_ (by first | omega | (simp; done) | (simp; omega) | (simp [World.setCell]; omega)) _ | refine below_setRow ?_ (by first | omega | (simp; done) | (simp; omega) | (simp [World.setCell]; omega)) _ | (refine Below.trans ?_ (Below.mono (by assumption) (by first | omega | (simp; done) | (simp; omega) | (simp [World.setCell]; omega))))))
      try simp only [Act.put, List.setIfInBounds_toArray, List.set_cons_zero, List.set_cons_succ]
      refine region_take (i := 4) (oi := ⟨(some 5), (Op.move (Operand.tmp 9)), 84, _, _, none⟩) (v := ?_) #[true, true, true, true, true, false, false, false, false, false] rfl (by kernel_rfl) (by kernel_rfl) (by kernel_rfl) (fun _ _ _ h => h) hS ?_ rfl ?_
      rotate_left
      · refine Or.inl ⟨rfl, fun W hW => ?_⟩
        dsimp only at hW
        have hx0 := (hW.cell (p := ⟨w.heap.size, 0, none⟩) (by simp)).trans hc0
        go_simp
        try rfl
      try simp only [Act.put, List.setIfInBounds_toArray, List.set_cons_zero, List.set_cons_succ]
      refine region_take (i := 5) (oi := ⟨(some 10), (Op.extract (Operand.tmp 5) 0), 83, _, _, none⟩) (v := ?_) #[true, true, true, true, true, true, false, false, false, false] rfl (by kernel_rfl) (by kernel_rfl) (by kernel_rfl) (fun _ _ _ h => h) hS ?_ rfl ?_
      rotate_left
      · refine Or.inl ⟨rfl, fun W hW => ?_⟩
        dsimp only at hW
        have hx0 := (hW.cell (p := ⟨w.heap.size, 0, none⟩) (by simp)).trans hc0
        go_simp
        try rfl
      try simp only [Act.put, List.setIfInBounds_toArray, List.set_cons_zero, List.set_cons_succ]
      refine region_take (i := 6) (oi := ⟨(some 11), (Op.extract (Operand.tmp 5) 1), 4, _, _, none⟩) (v := ?_) #[true, true, true, true, true, true, true, false, false, false] rfl (by kernel_rfl) (by kernel_rfl) (by kernel_rfl) (fun _ _ _ h => h) hS ?_ rfl ?_
      rotate_left
      · refine Or.inl ⟨rfl, fun W hW => ?_⟩
        dsimp only at hW
        have hx0 := (hW.cell (p := ⟨w.heap.size, 0, none⟩) (by simp)).trans hc0
        go_simp
        try rfl
      try simp only [Act.put, List.setIfInBounds_toArray, List.set_cons_zero, List.set_cons_succ]
      refine region_op (i := 7) (oi := ⟨(some 3), (Op.alloc 83), 0, _, _, none⟩) #[true, true, true, true, true, true, true, true, false, false] rfl (by kernel_rfl) rfl rfl ?_
      intro K hK
      go_simp
      refine hK _ _ ⟨?_, fun hS => ?_⟩
      · (show Below _ _ _; repeat (first | exact Below.refl _ _ | assumption | refine Below.drew ?_ | refine Below.alloc ?_ (by first | omega | (simp; done) | (simp; omega) | (simp [World.setCell]; omega)) _ | refine Below.setCell ?_ (by first | omega | (simp; done) | (simp; omega) | (simp [World.setCell]; omega)) _ | refine below_setRow ?_ (by first | omega | (simp; done) | (simp; omega) | (simp [World.setCell]; omega)) _ | (refine Below.trans ?_ (Below.mono (by assumption) (by first | omega | (simp; done) | (simp; omega) | (simp [World.setCell]; omega))))))
      try simp only [Act.put, List.setIfInBounds_toArray, List.set_cons_zero, List.set_cons_succ]
      refine region_op (i := 8) (oi := ⟨none, (Op.store 83 (Operand.tmp 3) (Operand.tmp 10)), 0, _, _, none⟩) #[true, true, true, true, true, true, true, true, true, false] rfl (by kernel_rfl) rfl rfl ?_
      intro K hK
      refine wp_store 83 _ _ rfl _ 0 83 [.string ⟨#[]⟩, .nilFunc] [.string ⟨#[104, 97, 108, 116]⟩, .func (.func 107) #[] #[]] ?_ rfl rfl (by kernel_rfl) (by simp) rfl [.string ⟨#[104, 97, 108, 116]⟩, .func (.func 107) #[] #[]] rfl ?_; (· (try simp only [alloc_drew, heap_drew]; first | exact heap_alloc_new _ _ | exact hp1 _ _ _ | exact hp2 _ _ _ _ | exact hp3 _ _ _ _ _ | exact hq1 _ _ _ | exact hq2 _ _ _ _ | exact hq3 _ _ _ _ _ | exact hr2 _ _ _ _ | exact hr3 _ _ _ _ _ | (simp; done)))
      refine hK _ _ ⟨?_, fun hS => ?_⟩
      · (show Below _ _ _; repeat (first | exact Below.refl _ _ | assumption | refine Below.drew ?_ | refine Below.alloc ?_ (by first | omega | (simp; done) | (simp; omega) | (simp [World.setCell]; omega)) _ | refine Below.setCell ?_ (by first | omega | (simp; done) | (simp; omega) | (simp [World.setCell]; omega)) _ | refine below_setRow ?_ (by first | omega | (simp; done) | (simp; omega) | (simp [World.setCell]; omega)) _ | (refine Below.trans ?_ (Below.mono (by assumption) (by first | omega | (simp; done) | (simp; omega) | (simp [World.setCell]; omega))))))
      try simp only [Act.put, List.setIfInBounds_toArray, List.set_cons_zero, List.set_cons_succ]
      refine region_take (i := 9) (oi := ⟨(some 4), (Op.assign (Operand.tmp 11)), 4, _, _, none⟩) (v := ?_) #[true, true, true, true, true, true, true, true, true, true] rfl (by kernel_rfl) (by kernel_rfl) (by kernel_rfl) (fun _ _ _ h => h) hS ?_ rfl ?_
      rotate_left
      · refine Or.inl ⟨rfl, fun W hW => ?_⟩
        dsimp only at hW
        have hx0 := (hW.cell (p := ⟨w.heap.size, 0, none⟩) (by simp)).trans hc0
        go_simp
        try rfl
      try simp only [Act.put, List.setIfInBounds_toArray, List.set_cons_zero, List.set_cons_succ]
      refine anyH_forget (F := (fun W => Below (w.heap.size + 1) (w.alloc (.cells #[.int .i64 10, .int .i64 size, .int .u32 addr, .bool idx, .int .u32 data, .int .i64 to, .int .i64 k, .int .i64 ix, .int .i64 wo, .int .i64 li, .bool on, .int .i64 rw, .int .u32 rf, .int .u32 rt, .bool rd, .bool wr, .int .i64 rk, .bool lk] 33)) W ∧ W.heap[w.heap.size + 1 + 1]? = some (.cells #[.string ⟨#[104, 97, 108, 116]⟩, .func (.func 107) #[] #[]] 83))) ⟨hS, setRow_heap _ _ _ _ _ _ (by (try simp only [alloc_drew, heap_drew]; first | exact heap_alloc_new _ _ | exact hp1 _ _ _ | exact hp2 _ _ _ _ | exact hp3 _ _ _ _ _ | exact hq1 _ _ _ | exact hq2 _ _ _ _ | exact hq3 _ _ _ _ _ | exact hr2 _ _ _ _ | exact hr3 _ _ _ _ _ | (simp; done)))⟩ ?_
      rintro w5 ⟨hB5, hr5⟩
      refine wpAnyH_done (by kernel_rfl) ?_ _
      have hrow := (hB5.block w.heap.size (by omega)).trans hcl
      have hsz := hB5.size
      simp at hsz
      have hc5 := rowc hr5 1
      simp only [List.getElem?_cons_succ, List.getElem?_cons_zero] at hc5
      clear hS hr5 hc0 hcl
      go_wp2_with (first | (go_at_call 107; (with_reducible refine (none_any 10 size addr data to k ix wo li rw rf rt rk idx on rd wr lk _).mono ?_); rintro e w6 ⟨rfl, hb6⟩) | ((with_reducible refine wpl_load 33 _ rfl ?_ w.heap.size 0 ?_ _ _ (CellsAt.of_block hrow) Tryz.underlying33 rfl (by kernel_rfl) ?_); (· rfl); (· rfl)))
      go_ret
      exact ⟨rfl, ((Below.refl _ _).alloc (Nat.le_refl _) _).trans ((hB5.mono (by omega)).trans (hb6.mono (by omega)))⟩
    · intro K hK
      go_simp
      refine hK _ _ ⟨?_, fun hS => ?_⟩
      · (show Below _ _ _; repeat (first | exact Below.refl _ _ | assumption | refine Below.drew ?_ | refine Below.alloc ?_ (by first | omega | (simp; done) | (simp; omega) | (simp [World.setCell]; omega)) _ | refine Below.setCell ?_ (by first | omega | (simp; done) | (simp; omega) | (simp [World.setCell]; omega)) _ | refine below_setRow ?_ (by first | omega | (simp; done) | (simp; omega) | (simp [World.setCell]; omega)) _ | (refine Below.trans ?_ (Below.mono (by assumption) (by first | omega | (simp; done) | (simp; omega) | (simp [World.setCell]; omega))))))
      try simp only [Act.put, List.setIfInBounds_toArray, List.set_cons_zero, List.set_cons_succ]
      refine region_op (i := 3) (oi := ⟨(some 9), (Op.lookup 85 (Operand.tmp 6) (Operand.tmp 8) true), 84, _, _, none⟩) #[true, true, true, true, false, false, false, true, false, false] rfl (by kernel_rfl) rfl rfl ?_
      intro K hK
      refine wp_lookK _ _ 10 (kindV [104, 97, 108, 116] 107) 9 _ rfl rfl rfl rfl ?_ ?_; (· (try simp only [alloc_drew, heap_drew]; first | exact heap_alloc_new _ _ | exact hp1 _ _ _ | exact hp2 _ _ _ _ | exact hp3 _ _ _ _ _ | exact hq1 _ _ _ | exact hq2 _ _ _ _ | exact hq3 _ _ _ _ _ | exact hr2 _ _ _ _ | exact hr3 _ _ _ _ _ | (simp; done)))
      refine hK _ _ ⟨?_, fun hS => ?_⟩
      · (show Below _ _ _; repeat (first | exact Below.refl _ _ | assumption | refine Below.drew ?_ | refine Below.alloc ?_ (by first | omega | (simp; done) | (simp; omega) | (simp [World.setCell]; omega)) _ | refine Below.setCell ?_ (by first | omega | (simp; done) | (simp; omega) | (simp [World.setCell]; omega)) _ | refine below_setRow ?_ (by first | omega | (simp; done) | (simp; omega) | (simp [World.setCell]; omega)) _ | (refine Below.trans ?_ (Below.mono (by assumption) (by first | omega | (simp; done) | (simp; omega) | (simp [World.setCell]; omega))))))
      try simp only [Act.put, List.setIfInBounds_toArray, List.set_cons_zero, List.set_cons_succ]
      refine region_take (i := 4) (oi := ⟨(some 5), (Op.move (Operand.tmp 9)), 84, _, _, none⟩) (v := ?_) #[true, true, true, true, true, false, false, true, false, false] rfl (by kernel_rfl) (by kernel_rfl) (by kernel_rfl) (fun _ _ _ h => h) hS ?_ rfl ?_
      rotate_left
      · refine Or.inl ⟨rfl, fun W hW => ?_⟩
        dsimp only at hW
        have hx0 := (hW.cell (p := ⟨w.heap.size, 0, none⟩) (by simp)).trans hc0
        go_simp
        try rfl
      try simp only [Act.put, List.setIfInBounds_toArray, List.set_cons_zero, List.set_cons_succ]
      refine region_take (i := 5) (oi := ⟨(some 10), (Op.extract (Operand.tmp 5) 0), 83, _, _, none⟩) (v := ?_) #[true, true, true, true, true, true, false, true, false, false] rfl (by kernel_rfl) (by kernel_rfl) (by kernel_rfl) (fun _ _ _ h => h) hS ?_ rfl ?_
      rotate_left
      · refine Or.inl ⟨rfl, fun W hW => ?_⟩
        dsimp only at hW
        have hx0 := (hW.cell (p := ⟨w.heap.size, 0, none⟩) (by simp)).trans hc0
        go_simp
        try rfl
      try simp only [Act.put, List.setIfInBounds_toArray, List.set_cons_zero, List.set_cons_succ]
      refine region_take (i := 6) (oi := ⟨(some 11), (Op.extract (Operand.tmp 5) 1), 4, _, _, none⟩) (v := ?_) #[true, true, true, true, true, true, true, true, false, false] rfl (by kernel_rfl) (by kernel_rfl) (by kernel_rfl) (fun _ _ _ h => h) hS ?_ rfl ?_
      rotate_left
      · refine Or.inl ⟨rfl, fun W hW => ?_⟩
        dsimp only at hW
        have hx0 := (hW.cell (p := ⟨w.heap.size, 0, none⟩) (by simp)).trans hc0
        go_simp
        try rfl
      try simp only [Act.put, List.setIfInBounds_toArray, List.set_cons_zero, List.set_cons_succ]
      refine region_op (i := 8) (oi := ⟨none, (Op.store 83 (Operand.tmp 3) (Operand.tmp 10)), 0, _, _, none⟩) #[true, true, true, true, true, true, true, true, true, false] rfl (by kernel_rfl) rfl rfl ?_
      intro K hK
      refine wp_store 83 _ _ rfl _ 0 83 [.string ⟨#[]⟩, .nilFunc] [.string ⟨#[104, 97, 108, 116]⟩, .func (.func 107) #[] #[]] ?_ rfl rfl (by kernel_rfl) (by simp) rfl [.string ⟨#[104, 97, 108, 116]⟩, .func (.func 107) #[] #[]] rfl ?_; (· (try simp only [alloc_drew, heap_drew]; first | exact heap_alloc_new _ _ | exact hp1 _ _ _ | exact hp2 _ _ _ _ | exact hp3 _ _ _ _ _ | exact hq1 _ _ _ | exact hq2 _ _ _ _ | exact hq3 _ _ _ _ _ | exact hr2 _ _ _ _ | exact hr3 _ _ _ _ _ | (simp; done)))
      refine hK _ _ ⟨?_, fun hS => ?_⟩
      · (show Below _ _ _; repeat (first | exact Below.refl _ _ | assumption | refine Below.drew ?_ | refine Below.alloc ?_ (by first | omega | (simp; done) | (simp; omega) | (simp [World.setCell]; omega)) _ | refine Below.setCell ?_ (by first | omega | (simp; done) | (simp; omega) | (simp [World.setCell]; omega)) _ | refine below_setRow ?_ (by first | omega | (simp; done) | (simp; omega) | (simp [World.setCell]; omega)) _ | (refine Below.trans ?_ (Below.mono (by assumption) (by first | omega | (simp; done) | (simp; omega) | (simp [World.setCell]; omega))))))
      try simp only [Act.put, List.setIfInBounds_toArray, List.set_cons_zero, List.set_cons_succ]
      refine region_take (i := 9) (oi := ⟨(some 4), (Op.assign (Operand.tmp 11)), 4, _, _, none⟩) (v := ?_) #[true, true, true, true, true, true, true, true, true, true] rfl (by kernel_rfl) (by kernel_rfl) (by kernel_rfl) (fun _ _ _ h => h) hS ?_ rfl ?_
      rotate_left
      · refine Or.inl ⟨rfl, fun W hW => ?_⟩
        dsimp only at hW
        have hx0 := (hW.cell (p := ⟨w.heap.size, 0, none⟩) (by simp)).trans hc0
        go_simp
        try rfl
      try simp only [Act.put, List.setIfInBounds_toArray, List.set_cons_zero, List.set_cons_succ]
      refine anyH_forget (F := (fun W => Below (w.heap.size + 1) (w.alloc (.cells #[.int .i64 10, .int .i64 size, .int .u32 addr, .bool idx, .int .u32 data, .int .i64 to, .int .i64 k, .int .i64 ix, .int .i64 wo, .int .i64 li, .bool on, .int .i64 rw, .int .u32 rf, .int .u32 rt, .bool rd, .bool wr, .int .i64 rk, .bool lk] 33)) W ∧ W.heap[w.heap.size + 1 + 1]? = some (.cells #[.string ⟨#[104, 97, 108, 116]⟩, .func (.func 107) #[] #[]] 83))) ⟨hS, setRow_heap _ _ _ _ _ _ (by (try simp only [alloc_drew, heap_drew]; first | exact heap_alloc_new _ _ | exact hp1 _ _ _ | exact hp2 _ _ _ _ | exact hp3 _ _ _ _ _ | exact hq1 _ _ _ | exact hq2 _ _ _ _ | exact hq3 _ _ _ _ _ | exact hr2 _ _ _ _ | exact hr3 _ _ _ _ _ | (simp; done)))⟩ ?_
      rintro w5 ⟨hB5, hr5⟩
      refine wpAnyH_done (by kernel_rfl) ?_ _
      have hrow := (hB5.block w.heap.size (by omega)).trans hcl
      have hsz := hB5.size
      simp at hsz
      have hc5 := rowc hr5 1
      simp only [List.getElem?_cons_succ, List.getElem?_cons_zero] at hc5
      clear hS hr5 hc0 hcl
      go_wp2_with (first | (go_at_call 107; (with_reducible refine (none_any 10 size addr data to k ix wo li rw rf rt rk idx on rd wr lk _).mono ?_); rintro e w6 ⟨rfl, hb6⟩) | ((with_reducible refine wpl_load 33 _ rfl ?_ w.heap.size 0 ?_ _ _ (CellsAt.of_block hrow) Tryz.underlying33 rfl (by kernel_rfl) ?_); (· rfl); (· rfl)))
      go_ret
      exact ⟨rfl, ((Below.refl _ _).alloc (Nat.le_refl _) _).trans ((hB5.mono (by omega)).trans (hb6.mono (by omega)))⟩
  · intro K hK
    go_simp
    refine hK _ _ ⟨?_, fun hS => ?_⟩
    · (show Below _ _ _; repeat (first | exact Below.refl _ _ | assumption | refine Below.drew ?_ | refine Below.alloc ?_ (by first | omega | (simp; done) | (simp; omega) | (simp [World.setCell]; omega)) _ | refine Below.setCell ?_ (by first | omega | (simp; done) | (simp; omega) | (simp [World.setCell]; omega)) _ | refine below_setRow ?_ (by first | omega | (simp; done) | (simp; omega) | (simp [World.setCell]; omega)) _ | (refine Below.trans ?_ (Below.mono (by assumption) (by first | omega | (simp; done) | (simp; omega) | (simp [World.setCell]; omega))))))
    try simp only [Act.put, List.setIfInBounds_toArray, List.set_cons_zero, List.set_cons_succ]
    refine region_op (i := 0) (oi := ⟨(some 6), (Op.call { callee := (Callee.value (Operand.func 45)), args := #[], argTypes := #[] }), 85, _, _, none⟩) #[true, true, true, false, false, false, false, true, false, false] rfl (by kernel_rfl) rfl rfl ?_
    intro K hK
    go_simp; refine (mapKinds_any _).mono ?_; rintro e w1 ⟨rfl, rfl⟩
    refine hK _ _ ⟨?_, fun hS => ?_⟩
    · (show Below _ _ _; repeat (first | exact Below.refl _ _ | assumption | refine Below.drew ?_ | refine Below.alloc ?_ (by first | omega | (simp; done) | (simp; omega) | (simp [World.setCell]; omega)) _ | refine Below.setCell ?_ (by first | omega | (simp; done) | (simp; omega) | (simp [World.setCell]; omega)) _ | refine below_setRow ?_ (by first | omega | (simp; done) | (simp; omega) | (simp [World.setCell]; omega)) _ | (refine Below.trans ?_ (Below.mono (by assumption) (by first | omega | (simp; done) | (simp; omega) | (simp [World.setCell]; omega))))))
    try simp only [Act.put, List.setIfInBounds_toArray, List.set_cons_zero, List.set_cons_succ]
    refine region_op (i := 3) (oi := ⟨(some 9), (Op.lookup 85 (Operand.tmp 6) (Operand.tmp 8) true), 84, _, _, none⟩) #[true, true, true, true, false, false, false, true, false, false] rfl (by kernel_rfl) rfl rfl ?_
    intro K hK
    refine wp_lookK _ _ 10 (kindV [104, 97, 108, 116] 107) 9 _ rfl rfl rfl rfl ?_ ?_; (· (try simp only [alloc_drew, heap_drew]; first | exact heap_alloc_new _ _ | exact hp1 _ _ _ | exact hp2 _ _ _ _ | exact hp3 _ _ _ _ _ | exact hq1 _ _ _ | exact hq2 _ _ _ _ | exact hq3 _ _ _ _ _ | exact hr2 _ _ _ _ | exact hr3 _ _ _ _ _ | (simp; done)))
    refine hK _ _ ⟨?_, fun hS => ?_⟩
    · (show Below _ _ _; repeat (first | exact Below.refl _ _ | assumption | refine Below.drew ?_ | refine Below.alloc ?_ (by first | omega | (simp; done) | (simp; omega) | (simp [World.setCell]; omega)) _ | refine Below.setCell ?_ (by first | omega | (simp; done) | (simp; omega) | (simp [World.setCell]; omega)) _ | refine below_setRow ?_ (by first | omega | (simp; done) | (simp; omega) | (simp [World.setCell]; omega)) _ | (refine Below.trans ?_ (Below.mono (by assumption) (by first | omega | (simp; done) | (simp; omega) | (simp [World.setCell]; omega))))))
    try simp only [Act.put, List.setIfInBounds_toArray, List.set_cons_zero, List.set_cons_succ]
    refine region_take (i := 4) (oi := ⟨(some 5), (Op.move (Operand.tmp 9)), 84, _, _, none⟩) (v := ?_) #[true, true, true, true, true, false, false, true, false, false] rfl (by kernel_rfl) (by kernel_rfl) (by kernel_rfl) (fun _ _ _ h => h) hS ?_ rfl ?_
    rotate_left
    · refine Or.inl ⟨rfl, fun W hW => ?_⟩
      dsimp only at hW
      have hx0 := (hW.cell (p := ⟨w.heap.size, 0, none⟩) (by simp)).trans hc0
      go_simp
      try rfl
    try simp only [Act.put, List.setIfInBounds_toArray, List.set_cons_zero, List.set_cons_succ]
    refine region_take (i := 5) (oi := ⟨(some 10), (Op.extract (Operand.tmp 5) 0), 83, _, _, none⟩) (v := ?_) #[true, true, true, true, true, true, false, true, false, false] rfl (by kernel_rfl) (by kernel_rfl) (by kernel_rfl) (fun _ _ _ h => h) hS ?_ rfl ?_
    rotate_left
    · refine Or.inl ⟨rfl, fun W hW => ?_⟩
      dsimp only at hW
      have hx0 := (hW.cell (p := ⟨w.heap.size, 0, none⟩) (by simp)).trans hc0
      go_simp
      try rfl
    try simp only [Act.put, List.setIfInBounds_toArray, List.set_cons_zero, List.set_cons_succ]
    refine region_take (i := 6) (oi := ⟨(some 11), (Op.extract (Operand.tmp 5) 1), 4, _, _, none⟩) (v := ?_) #[true, true, true, true, true, true, true, true, false, false] rfl (by kernel_rfl) (by kernel_rfl) (by kernel_rfl) (fun _ _ _ h => h) hS ?_ rfl ?_
    rotate_left
    · refine Or.inl ⟨rfl, fun W hW => ?_⟩
      dsimp only at hW
      have hx0 := (hW.cell (p := ⟨w.heap.size, 0, none⟩) (by simp)).trans hc0
      go_simp
      try rfl
    try simp only [Act.put, List.setIfInBounds_toArray, List.set_cons_zero, List.set_cons_succ]
    refine region_op (i := 8) (oi := ⟨none, (Op.store 83 (Operand.tmp 3) (Operand.tmp 10)), 0, _, _, none⟩) #[true, true, true, true, true, true, true, true, true, false] rfl (by kernel_rfl) rfl rfl ?_
    intro K hK
    refine wp_store 83 _ _ rfl _ 0 83 [.string ⟨#[]⟩, .nilFunc] [.string ⟨#[104, 97, 108, 116]⟩, .func (.func 107) #[] #[]] ?_ rfl rfl (by kernel_rfl) (by simp) rfl [.string ⟨#[104, 97, 108, 116]⟩, .func (.func 107) #[] #[]] rfl ?_; (· (try simp only [alloc_drew, heap_drew]; first | exact heap_alloc_new _ _ | exact hp1 _ _ _ | exact hp2 _ _ _ _ | exact hp3 _ _ _ _ _ | exact hq1 _ _ _ | exact hq2 _ _ _ _ | exact hq3 _ _ _ _ _ | exact hr2 _ _ _ _ | exact hr3 _ _ _ _ _ | (simp; done)))
    refine hK _ _ ⟨?_, fun hS => ?_⟩
    · (show Below _ _ _; repeat (first | exact Below.refl _ _ | assumption | refine Below.drew ?_ | refine Below.alloc ?_ (by first | omega | (simp; done) | (simp; omega) | (simp [World.setCell]; omega)) _ | refine Below.setCell ?_ (by first | omega | (simp; done) | (simp; omega) | (simp [World.setCell]; omega)) _ | refine below_setRow ?_ (by first | omega | (simp; done) | (simp; omega) | (simp [World.setCell]; omega)) _ | (refine Below.trans ?_ (Below.mono (by assumption) (by first | omega | (simp; done) | (simp; omega) | (simp [World.setCell]; omega))))))
    try simp only [Act.put, List.setIfInBounds_toArray, List.set_cons_zero, List.set_cons_succ]
    refine region_take (i := 9) (oi := ⟨(some 4), (Op.assign (Operand.tmp 11)), 4, _, _, none⟩) (v := ?_) #[true, true, true, true, true, true, true, true, true, true] rfl (by kernel_rfl) (by kernel_rfl) (by kernel_rfl) (fun _ _ _ h => h) hS ?_ rfl ?_
    rotate_left
    · refine Or.inl ⟨rfl, fun W hW => ?_⟩
      dsimp only at hW
      have hx0 := (hW.cell (p := ⟨w.heap.size, 0, none⟩) (by simp)).trans hc0
      go_simp
      try rfl
    try simp only [Act.put, List.setIfInBounds_toArray, List.set_cons_zero, List.set_cons_succ]
    refine anyH_forget (F := (fun W => Below (w.heap.size + 1) (w.alloc (.cells #[.int .i64 10, .int .i64 size, .int .u32 addr, .bool idx, .int .u32 data, .int .i64 to, .int .i64 k, .int .i64 ix, .int .i64 wo, .int .i64 li, .bool on, .int .i64 rw, .int .u32 rf, .int .u32 rt, .bool rd, .bool wr, .int .i64 rk, .bool lk] 33)) W ∧ W.heap[w.heap.size + 1]? = some (.cells #[.string ⟨#[104, 97, 108, 116]⟩, .func (.func 107) #[] #[]] 83))) ⟨hS, setRow_heap _ _ _ _ _ _ (by (try simp only [alloc_drew, heap_drew]; first | exact heap_alloc_new _ _ | exact hp1 _ _ _ | exact hp2 _ _ _ _ | exact hp3 _ _ _ _ _ | exact hq1 _ _ _ | exact hq2 _ _ _ _ | exact hq3 _ _ _ _ _ | exact hr2 _ _ _ _ | exact hr3 _ _ _ _ _ | (simp; done)))⟩ ?_
    rintro w5 ⟨hB5, hr5⟩
    refine wpAnyH_done (by kernel_rfl) ?_ _
    have hrow := (hB5.block w.heap.size (by omega)).trans hcl
    have hsz := hB5.size
    simp at hsz
    have hc5 := rowc hr5 1
    simp only [List.getElem?_cons_succ, List.getElem?_cons_zero] at hc5
    clear hS hr5 hc0 hcl
    go_wp2_with (first | (go_at_call 107; (with_reducible refine (none_any 10 size addr data to k ix wo li rw rf rt rk idx on rd wr lk _).mono ?_); rintro e w6 ⟨rfl, hb6⟩) | ((with_reducible refine wpl_load 33 _ rfl ?_ w.heap.size 0 ?_ _ _ (CellsAt.of_block hrow) Tryz.underlying33 rfl (by kernel_rfl) ?_); (· rfl); (· rfl)))
    go_ret
    exact ⟨rfl, ((Below.refl _ _).alloc (Nat.le_refl _) _).trans ((hB5.mono (by omega)).trans (hb6.mono (by omega)))⟩
set_option maxRecDepth 100000 in
set_option maxHeartbeats 1000000 in
theorem instr_none (op : Int) (size addr data to k ix wo li rw rf rt rk : Int) (idx on rd wr lk : Bool) (w : World) (hn : Instr.findNow (.int .i64) (.int .i64 op) (kindEs 10).toList 0 = some none) :
    Calls Tryz.prog 15 #[.agg #[.int .i64 op, .int .i64 size, .int .u32 addr, .bool idx, .int .u32 data, .int .i64 to, .int .i64 k, .int .i64 ix, .int .i64 wo, .int .i64 li, .bool on, .int .i64 rw, .int .u32 rf, .int .u32 rt, .bool rd, .bool wr, .int .i64 rk, .bool lk]] w fun e w' => e = .returned (.bool false) ∧ Below w.heap.size w w' := by
  have hn' := Lib.hid hn
  clear hn
  have hc0 : (w.alloc (.cells #[.int .i64 op, .int .i64 size, .int .u32 addr, .bool idx, .int .u32 data, .int .i64 to, .int .i64 k, .int .i64 ix, .int .i64 wo, .int .i64 li, .bool on, .int .i64 rw, .int .u32 rf, .int .u32 rt, .bool rd, .bool wr, .int .i64 rk, .bool lk] 33)).cell? ⟨w.heap.size, 0, none⟩ = some (.int .i64 op) := by simp
  go_enter Tryz.func15, Tryz.ntmps15
  go_wp2_with fail
  refine region_start (S := (fun W => Below (w.heap.size + 1) (w.alloc (.cells #[.int .i64 op, .int .i64 size, .int .u32 addr, .bool idx, .int .u32 data, .int .i64 to, .int .i64 k, .int .i64 ix, .int .i64 wo, .int .i64 li, .bool on, .int .i64 rw, .int .u32 rf, .int .u32 rt, .bool rd, .bool wr, .int .i64 rk, .bool lk] 33)) W)) 10 rfl #[false, false, false, false, false, false, false, false, false, false] rfl (by kernel_rfl) ?_
  refine region_s ?_ ?_
  · (show Below _ _ _; repeat (first | exact Below.refl _ _ | assumption | refine Below.drew ?_ | refine Below.alloc ?_ (by first | omega | (simp; done) | (simp; omega) | (simp [World.setCell]; omega)) _ | refine Below.setCell ?_ (by first | omega | (simp; done) | (simp; omega) | (simp [World.setCell]; omega)) _ | refine below_setRow ?_ (by first | omega | (simp; done) | (simp; omega) | (simp [World.setCell]; omega)) _ | (refine Below.trans ?_ (Below.mono (by assumption) (by first | omega | (simp; done) | (simp; omega) | (simp [World.setCell]; omega))))))
  intro hS
  refine region_take (i := 1) (oi := ⟨(some 7), (Op.fieldAddr 33 (Operand.tmp 1) 0), 0, _, _, none⟩) (v := ?_) #[false, true, false, false, false, false, false, false, false, false] rfl (by kernel_rfl) (by kernel_rfl) (by kernel_rfl) (fun _ _ _ h => h) hS ?_ rfl ?_
  rotate_left
  · refine Or.inl ⟨rfl, fun W hW => ?_⟩
    dsimp only at hW
    have hx0 := (hW.cell (p := ⟨w.heap.size, 0, none⟩) (by simp)).trans hc0
    go_simp
    try rfl
  try simp only [Act.put, List.setIfInBounds_toArray, List.set_cons_zero, List.set_cons_succ]
  refine region_take (i := 2) (oi := ⟨(some 8), (Op.load 23 (Operand.tmp 7)), 23, _, _, none⟩) (v := ?_) #[false, true, true, false, false, false, false, false, false, false] rfl (by kernel_rfl) (by kernel_rfl) (by kernel_rfl) (fun _ _ _ h => h) hS ?_ rfl ?_
  rotate_left
  · refine Or.inl ⟨rfl, fun W hW => ?_⟩
    dsimp only at hW
    have hx0 := (hW.cell (p := ⟨w.heap.size, 0, none⟩) (by simp)).trans hc0
    go_simp
    try rfl
  try simp only [Act.put, List.setIfInBounds_toArray, List.set_cons_zero, List.set_cons_succ]
  refine region_two (i := 0) (j := 7) (oi := ⟨(some 6), (Op.call { callee := (Callee.value (Operand.func 45)), args := #[], argTypes := #[] }), 85, _, _, none⟩) (oj := ⟨(some 3), (Op.alloc 83), 0, _, _, none⟩) #[true, true, true, false, false, false, false, false, false, false] #[false, true, true, false, false, false, false, true, false, false] rfl rfl (by kernel_rfl) rfl rfl rfl rfl ?_ ?_
  · intro K hK
    go_simp; refine (mapKinds_any _).mono ?_; rintro e w1 ⟨rfl, rfl⟩
    refine hK _ _ ⟨?_, fun hS => ?_⟩
    · (show Below _ _ _; repeat (first | exact Below.refl _ _ | assumption | refine Below.drew ?_ | refine Below.alloc ?_ (by first | omega | (simp; done) | (simp; omega) | (simp [World.setCell]; omega)) _ | refine Below.setCell ?_ (by first | omega | (simp; done) | (simp; omega) | (simp [World.setCell]; omega)) _ | refine below_setRow ?_ (by first | omega | (simp; done) | (simp; omega) | (simp [World.setCell]; omega)) _ | (refine Below.trans ?_ (Below.mono (by assumption) (by first | omega | (simp; done) | (simp; omega) | (simp [World.setCell]; omega))))))
    try simp only [Act.put, List.setIfInBounds_toArray, List.set_cons_zero, List.set_cons_succ]
    refine region_two (i := 3) (j := 7) (oi := ⟨(some 9), (Op.lookup 85 (Operand.tmp 6) (Operand.tmp 8) true), 84, _, _, none⟩) (oj := ⟨(some 3), (Op.alloc 83), 0, _, _, none⟩) #[true, true, true, true, false, false, false, false, false, false] #[true, true, true, false, false, false, false, true, false, false] rfl rfl (by kernel_rfl) rfl rfl rfl rfl ?_ ?_
    · intro K hK
      refine wp_lookN _ _ op _ rfl rfl rfl hn'.out ?_ ?_; (· (try simp only [alloc_drew, heap_drew]; first | exact heap_alloc_new _ _ | exact hp1 _ _ _ | exact hp2 _ _ _ _ | exact hp3 _ _ _ _ _ | exact hq1 _ _ _ | exact hq2 _ _ _ _ | exact hq3 _ _ _ _ _ | exact hr2 _ _ _ _ | exact hr3 _ _ _ _ _ | (simp; done)))
      refine hK _ _ ⟨?_, fun hS => ?_⟩
      · (show Below _ _ _; repeat (first | exact Below.refl _ _ | assumption | refine Below.drew ?_ | refine Below.alloc ?_ (by first | omega | (simp; done) | (simp; omega) | (simp [World.setCell]; omega)) _ | refine Below.setCell ?_ (by first | omega | (simp; done) | (simp; omega) | (simp [World.setCell]; omega)) _ | refine below_setRow ?_ (by first | omega | (simp; done) | (simp; omega) | (simp [World.setCell]; omega)) _ | (refine Below.trans ?_ (Below.mono (by assumption) (by first | omega | (simp; done) | (simp; omega) | (simp [World.setCell]; omega))))))
      try simp only [Act.put, List.setIfInBounds_toArray, List.set_cons_zero, List.set_cons_succ]
      refine region_take (i := 4) (oi := ⟨(some 5), (Op.move (Operand.tmp 9)), 84, _, _, none⟩) (v := ?_) #[true, true, true, true, true, false, false, false, false, false] rfl (by kernel_rfl) (by kernel_rfl) (by kernel_rfl) (fun _ _ _ h => h) hS ?_ rfl ?_
      rotate_left
      · refine Or.inl ⟨rfl, fun W hW => ?_⟩
        dsimp only at hW
        have hx0 := (hW.cell (p := ⟨w.heap.size, 0, none⟩) (by simp)).trans hc0
        go_simp
        try rfl
      try simp only [Act.put, List.setIfInBounds_toArray, List.set_cons_zero, List.set_cons_succ]
      refine region_take (i := 5) (oi := ⟨(some 10), (Op.extract (Operand.tmp 5) 0), 83, _, _, none⟩) (v := ?_) #[true, true, true, true, true, true, false, false, false, false] rfl (by kernel_rfl) (by kernel_rfl) (by kernel_rfl) (fun _ _ _ h => h) hS ?_ rfl ?_
      rotate_left
      · refine Or.inl ⟨rfl, fun W hW => ?_⟩
        dsimp only at hW
        have hx0 := (hW.cell (p := ⟨w.heap.size, 0, none⟩) (by simp)).trans hc0
        go_simp
        try rfl
      try simp only [Act.put, List.setIfInBounds_toArray, List.set_cons_zero, List.set_cons_succ]
      refine region_take (i := 6) (oi := ⟨(some 11), (Op.extract (Operand.tmp 5) 1), 4, _, _, none⟩) (v := ?_) #[true, true, true, true, true, true, true, false, false, false] rfl (by kernel_rfl) (by kernel_rfl) (by kernel_rfl) (fun _ _ _ h => h) hS ?_ rfl ?_
      rotate_left
      · refine Or.inl ⟨rfl, fun W hW => ?_⟩
        dsimp only at hW
        have hx0 := (hW.cell (p := ⟨w.heap.size, 0, none⟩) (by simp)).trans hc0
        go_simp
        try rfl
      try simp only [Act.put, List.setIfInBounds_toArray, List.set_cons_zero, List.set_cons_succ]
      refine region_op (i := 7) (oi := ⟨(some 3), (Op.alloc 83), 0, _, _, none⟩) #[true, true, true, true, true, true, true, true, false, false] rfl (by kernel_rfl) rfl rfl ?_
      intro K hK
      go_simp
      refine hK _ _ ⟨?_, fun hS => ?_⟩
      · (show Below _ _ _; repeat (first | exact Below.refl _ _ | assumption | refine Below.drew ?_ | refine Below.alloc ?_ (by first | omega | (simp; done) | (simp; omega) | (simp [World.setCell]; omega)) _ | refine Below.setCell ?_ (by first | omega | (simp; done) | (simp; omega) | (simp [World.setCell]; omega)) _ | refine below_setRow ?_ (by first | omega | (simp; done) | (simp; omega) | (simp [World.setCell]; omega)) _ | (refine Below.trans ?_ (Below.mono (by assumption) (by first | omega | (simp; done) | (simp; omega) | (simp [World.setCell]; omega))))))
      try simp only [Act.put, List.setIfInBounds_toArray, List.set_cons_zero, List.set_cons_succ]
      refine region_op (i := 8) (oi := ⟨none, (Op.store 83 (Operand.tmp 3) (Operand.tmp 10)), 0, _, _, none⟩) #[true, true, true, true, true, true, true, true, true, false] rfl (by kernel_rfl) rfl rfl ?_
      intro K hK
      refine wp_store 83 _ _ rfl _ 0 83 [.string ⟨#[]⟩, .nilFunc] [.string ⟨#[]⟩, .nilFunc] ?_ rfl rfl (by kernel_rfl) (by simp) rfl [.string ⟨#[]⟩, .nilFunc] rfl ?_; (· (try simp only [alloc_drew, heap_drew]; first | exact heap_alloc_new _ _ | exact hp1 _ _ _ | exact hp2 _ _ _ _ | exact hp3 _ _ _ _ _ | exact hq1 _ _ _ | exact hq2 _ _ _ _ | exact hq3 _ _ _ _ _ | exact hr2 _ _ _ _ | exact hr3 _ _ _ _ _ | (simp; done)))
      refine hK _ _ ⟨?_, fun hS => ?_⟩
      · (show Below _ _ _; repeat (first | exact Below.refl _ _ | assumption | refine Below.drew ?_ | refine Below.alloc ?_ (by first | omega | (simp; done) | (simp; omega) | (simp [World.setCell]; omega)) _ | refine Below.setCell ?_ (by first | omega | (simp; done) | (simp; omega) | (simp [World.setCell]; omega)) _ | refine below_setRow ?_ (by first | omega | (simp; done) | (simp; omega) | (simp [World.setCell]; omega)) _ | (refine Below.trans ?_ (Below.mono (by assumption) (by first | omega | (simp; done) | (simp; omega) | (simp [World.setCell]; omega))))))
      try simp only [Act.put, List.setIfInBounds_toArray, List.set_cons_zero, List.set_cons_succ]
      refine region_take (i := 9) (oi := ⟨(some 4), (Op.assign (Operand.tmp 11)), 4, _, _, none⟩) (v := ?_) #[true, true, true, true, true, true, true, true, true, true] rfl (by kernel_rfl) (by kernel_rfl) (by kernel_rfl) (fun _ _ _ h => h) hS ?_ rfl ?_
      rotate_left
      · refine Or.inl ⟨rfl, fun W hW => ?_⟩
        dsimp only at hW
        have hx0 := (hW.cell (p := ⟨w.heap.size, 0, none⟩) (by simp)).trans hc0
        go_simp
        try rfl
      try simp only [Act.put, List.setIfInBounds_toArray, List.set_cons_zero, List.set_cons_succ]
      refine anyH_forget (F := (fun W => Below (w.heap.size + 1) (w.alloc (.cells #[.int .i64 op, .int .i64 size, .int .u32 addr, .bool idx, .int .u32 data, .int .i64 to, .int .i64 k, .int .i64 ix, .int .i64 wo, .int .i64 li, .bool on, .int .i64 rw, .int .u32 rf, .int .u32 rt, .bool rd, .bool wr, .int .i64 rk, .bool lk] 33)) W)) hS ?_
      rintro w5 hB5
      refine wpAnyH_done (by kernel_rfl) ?_ _
      clear hS hc0
      go_wp2
      go_ret
      exact ⟨rfl, ((Below.refl _ _).alloc (Nat.le_refl _) _).trans (hB5.mono (by omega))⟩
    · intro K hK
      go_simp
      refine hK _ _ ⟨?_, fun hS => ?_⟩
      · (show Below _ _ _; repeat (first | exact Below.refl _ _ | assumption | refine Below.drew ?_ | refine Below.alloc ?_ (by first | omega | (simp; done) | (simp; omega) | (simp [World.setCell]; omega)) _ | refine Below.setCell ?_ (by first | omega | (simp; done) | (simp; omega) | (simp [World.setCell]; omega)) _ | refine below_setRow ?_ (by first | omega | (simp; done) | (simp; omega) | (simp [World.setCell]; omega)) _ | (refine Below.trans ?_ (Below.mono (by assumption) (by first | omega | (simp; done) | (simp; omega) | (simp [World.setCell]; omega))))))
      try simp only [Act.put, List.setIfInBounds_toArray, List.set_cons_zero, List.set_cons_succ]
      refine region_op (i := 3) (oi := ⟨(some 9), (Op.lookup 85 (Operand.tmp 6) (Operand.tmp 8) true), 84, _, _, none⟩) #[true, true, true, true, false, false, false, true, false, false] rfl (by kernel_rfl) rfl rfl ?_
      intro K hK
      refine wp_lookN _ _ op _ rfl rfl rfl hn'.out ?_ ?_; (· (try simp only [alloc_drew, heap_drew]; first | exact heap_alloc_new _ _ | exact hp1 _ _ _ | exact hp2 _ _ _ _ | exact hp3 _ _ _ _ _ | exact hq1 _ _ _ | exact hq2 _ _ _ _ | exact hq3 _ _ _ _ _ | exact hr2 _ _ _ _ | exact hr3 _ _ _ _ _ | (simp; done)))
      refine hK _ _ ⟨?_, fun hS => ?_⟩
      · (show Below _ _ _; repeat (first | exact Below.refl _ _ | assumption | refine Below.drew ?_ | refine Below.alloc ?_ (by first | omega | (simp; done) | (simp; omega) | (simp [World.setCell]; omega)) _ | refine Below.setCell ?_ (by first | omega | (simp; done) | (simp; omega) | (simp [World.setCell]; omega)) _ | refine below_setRow ?_ (by first | omega | (simp; done) | (simp; omega) | (simp [World.setCell]; omega)) _ | (refine Below.trans ?_ (Below.mono (by assumption) (by first | omega | (simp; done) | (simp; omega) | (simp [World.setCell]; omega))))))
      try simp only [Act.put, List.setIfInBounds_toArray, List.set_cons_zero, List.set_cons_succ]
      refine region_take (i := 4) (oi := ⟨(some 5), (Op.move (Operand.tmp 9)), 84, _, _, none⟩) (v := ?_) #[true, true, true, true, true, false, false, true, false, false] rfl (by kernel_rfl) (by kernel_rfl) (by kernel_rfl) (fun _ _ _ h => h) hS ?_ rfl ?_
      rotate_left
      · refine Or.inl ⟨rfl, fun W hW => ?_⟩
        dsimp only at hW
        have hx0 := (hW.cell (p := ⟨w.heap.size, 0, none⟩) (by simp)).trans hc0
        go_simp
        try rfl
      try simp only [Act.put, List.setIfInBounds_toArray, List.set_cons_zero, List.set_cons_succ]
      refine region_take (i := 5) (oi := ⟨(some 10), (Op.extract (Operand.tmp 5) 0), 83, _, _, none⟩) (v := ?_) #[true, true, true, true, true, true, false, true, false, false] rfl (by kernel_rfl) (by kernel_rfl) (by kernel_rfl) (fun _ _ _ h => h) hS ?_ rfl ?_
      rotate_left
      · refine Or.inl ⟨rfl, fun W hW => ?_⟩
        dsimp only at hW
        have hx0 := (hW.cell (p := ⟨w.heap.size, 0, none⟩) (by simp)).trans hc0
        go_simp
        try rfl
      try simp only [Act.put, List.setIfInBounds_toArray, List.set_cons_zero, List.set_cons_succ]
      refine region_take (i := 6) (oi := ⟨(some 11), (Op.extract (Operand.tmp 5) 1), 4, _, _, none⟩) (v := ?_) #[true, true, true, true, true, true, true, true, false, false] rfl (by kernel_rfl) (by kernel_rfl) (by kernel_rfl) (fun _ _ _ h => h) hS ?_ rfl ?_
      rotate_left
      · refine Or.inl ⟨rfl, fun W hW => ?_⟩
        dsimp only at hW
        have hx0 := (hW.cell (p := ⟨w.heap.size, 0, none⟩) (by simp)).trans hc0
        go_simp
        try rfl
      try simp only [Act.put, List.setIfInBounds_toArray, List.set_cons_zero, List.set_cons_succ]
      refine region_op (i := 8) (oi := ⟨none, (Op.store 83 (Operand.tmp 3) (Operand.tmp 10)), 0, _, _, none⟩) #[true, true, true, true, true, true, true, true, true, false] rfl (by kernel_rfl) rfl rfl ?_
      intro K hK
      refine wp_store 83 _ _ rfl _ 0 83 [.string ⟨#[]⟩, .nilFunc] [.string ⟨#[]⟩, .nilFunc] ?_ rfl rfl (by kernel_rfl) (by simp) rfl [.string ⟨#[]⟩, .nilFunc] rfl ?_; (· (try simp only [alloc_drew, heap_drew]; first | exact heap_alloc_new _ _ | exact hp1 _ _ _ | exact hp2 _ _ _ _ | exact hp3 _ _ _ _ _ | exact hq1 _ _ _ | exact hq2 _ _ _ _ | exact hq3 _ _ _ _ _ | exact hr2 _ _ _ _ | exact hr3 _ _ _ _ _ | (simp; done)))
      refine hK _ _ ⟨?_, fun hS => ?_⟩
      · (show Below _ _ _; repeat (first | exact Below.refl _ _ | assumption | refine Below.drew ?_ | refine Below.alloc ?_ (by first | omega | (simp; done) | (simp; omega) | (simp [World.setCell]; omega)) _ | refine Below.setCell ?_ (by first | omega | (simp; done) | (simp; omega) | (simp [World.setCell]; omega)) _ | refine below_setRow ?_ (by first | omega | (simp; done) | (simp; omega) | (simp [World.setCell]; omega)) _ | (refine Below.trans ?_ (Below.mono (by assumption) (by first | omega | (simp; done) | (simp; omega) | (simp [World.setCell]; omega))))))
      try simp only [Act.put, List.setIfInBounds_toArray, List.set_cons_zero, List.set_cons_succ]
      refine region_take (i := 9) (oi := ⟨(some 4), (Op.assign (Operand.tmp 11)), 4, _, _, none⟩) (v := ?_) #[true, true, true, true, true, true, true, true, true, true] rfl (by kernel_rfl) (by kernel_rfl) (by kernel_rfl) (fun _ _ _ h => h) hS ?_ rfl ?_
      rotate_left
      · refine Or.inl ⟨rfl, fun W hW => ?_⟩
        dsimp only at hW
        have hx0 := (hW.cell (p := ⟨w.heap.size, 0, none⟩) (by simp)).trans hc0
        go_simp
        try rfl
      try simp only [Act.put, List.setIfInBounds_toArray, List.set_cons_zero, List.set_cons_succ]
      refine anyH_forget (F := (fun W => Below (w.heap.size + 1) (w.alloc (.cells #[.int .i64 op, .int .i64 size, .int .u32 addr, .bool idx, .int .u32 data, .int .i64 to, .int .i64 k, .int .i64 ix, .int .i64 wo, .int .i64 li, .bool on, .int .i64 rw, .int .u32 rf, .int .u32 rt, .bool rd, .bool wr, .int .i64 rk, .bool lk] 33)) W)) hS ?_
      rintro w5 hB5
      refine wpAnyH_done (by kernel_rfl) ?_ _
      clear hS hc0
      go_wp2
      go_ret
      exact ⟨rfl, ((Below.refl _ _).alloc (Nat.le_refl _) _).trans (hB5.mono (by omega))⟩
  · intro K hK
    go_simp
    refine hK _ _ ⟨?_, fun hS => ?_⟩
    · (show Below _ _ _; repeat (first | exact Below.refl _ _ | assumption | refine Below.drew ?_ | refine Below.alloc ?_ (by first | omega | (simp; done) | (simp; omega) | (simp [World.setCell]; omega)) _ | refine Below.setCell ?_ (by first | omega | (simp; done) | (simp; omega) | (simp [World.setCell]; omega)) _ | refine below_setRow ?_ (by first | omega | (simp; done) | (simp; omega) | (simp [World.setCell]; omega)) _ | (refine Below.trans ?_ (Below.mono (by assumption) (by first | omega | (simp; done) | (simp; omega) | (simp [World.setCell]; omega))))))
    try simp only [Act.put, List.setIfInBounds_toArray, List.set_cons_zero, List.set_cons_succ]
    refine region_op (i := 0) (oi := ⟨(some 6), (Op.call { callee := (Callee.value (Operand.func 45)), args := #[], argTypes := #[] }), 85, _, _, none⟩) #[true, true, true, false, false, false, false, true, false, false] rfl (by kernel_rfl) rfl rfl ?_
    intro K hK
    go_simp; refine (mapKinds_any _).mono ?_; rintro e w1 ⟨rfl, rfl⟩
    refine hK _ _ ⟨?_, fun hS => ?_⟩
    · (show Below _ _ _; repeat (first | exact Below.refl _ _ | assumption | refine Below.drew ?_ | refine Below.alloc ?_ (by first | omega | (simp; done) | (simp; omega) | (simp [World.setCell]; omega)) _ | refine Below.setCell ?_ (by first | omega | (simp; done) | (simp; omega) | (simp [World.setCell]; omega)) _ | refine below_setRow ?_ (by first | omega | (simp; done) | (simp; omega) | (simp [World.setCell]; omega)) _ | (refine Below.trans ?_ (Below.mono (by assumption) (by first | omega | (simp; done) | (simp; omega) | (simp [World.setCell]; omega))))))
    try simp only [Act.put, List.setIfInBounds_toArray, List.set_cons_zero, List.set_cons_succ]
    refine region_op (i := 3) (oi := ⟨(some 9), (Op.lookup 85 (Operand.tmp 6) (Operand.tmp 8) true), 84, _, _, none⟩) #[true, true, true, true, false, false, false, true, false, false] rfl (by kernel_rfl) rfl rfl ?_
    intro K hK
    refine wp_lookN _ _ op _ rfl rfl rfl hn'.out ?_ ?_; (· (try simp only [alloc_drew, heap_drew]; first | exact heap_alloc_new _ _ | exact hp1 _ _ _ | exact hp2 _ _ _ _ | exact hp3 _ _ _ _ _ | exact hq1 _ _ _ | exact hq2 _ _ _ _ | exact hq3 _ _ _ _ _ | exact hr2 _ _ _ _ | exact hr3 _ _ _ _ _ | (simp; done)))
    refine hK _ _ ⟨?_, fun hS => ?_⟩
    · (show Below _ _ _; repeat (first | exact Below.refl _ _ | assumption | refine Below.drew ?_ | refine Below.alloc ?_ (by first | omega | (simp; done) | (simp; omega) | (simp [World.setCell]; omega)) _ | refine Below.setCell ?_ (by first | omega | (simp; done) | (simp; omega) | (simp [World.setCell]; omega)) _ | refine below_setRow ?_ (by first | omega | (simp; done) | (simp; omega) | (simp [World.setCell]; omega)) _ | (refine Below.trans ?_ (Below.mono (by assumption) (by first | omega | (simp; done) | (simp; omega) | (simp [World.setCell]; omega))))))
    try simp only [Act.put, List.setIfInBounds_toArray, List.set_cons_zero, List.set_cons_succ]
    refine region_take (i := 4) (oi := ⟨(some 5), (Op.move (Operand.tmp 9)), 84, _, _, none⟩) (v := ?_) #[true, true, true, true, true, false, false, true, false, false] rfl (by kernel_rfl) (by kernel_rfl) (by kernel_rfl) (fun _ _ _ h => h) hS ?_ rfl ?_
    rotate_left
    · refine Or.inl ⟨rfl, fun W hW => ?_⟩
      dsimp only at hW
      have hx0 := (hW.cell (p := ⟨w.heap.size, 0, none⟩) (by simp)).trans hc0
      go_simp
      try rfl
    try simp only [Act.put, List.setIfInBounds_toArray, List.set_cons_zero, List.set_cons_succ]
    refine region_take (i := 5) (oi := ⟨(some 10), (Op.extract (Operand.tmp 5) 0), 83, _, _, none⟩) (v := ?_) #[true, true, true, true, true, true, false, true, false, false] rfl (by kernel_rfl) (by kernel_rfl) (by kernel_rfl) (fun _ _ _ h => h) hS ?_ rfl ?_
    rotate_left
    · refine Or.inl ⟨rfl, fun W hW => ?_⟩
      dsimp only at hW
      have hx0 := (hW.cell (p := ⟨w.heap.size, 0, none⟩) (by simp)).trans hc0
      go_simp
      try rfl
    try simp only [Act.put, List.setIfInBounds_toArray, List.set_cons_zero, List.set_cons_succ]
    refine region_take (i := 6) (oi := ⟨(some 11), (Op.extract (Operand.tmp 5) 1), 4, _, _, none⟩) (v := ?_) #[true, true, true, true, true, true, true, true, false, false] rfl (by kernel_rfl) (by kernel_rfl) (by kernel_rfl) (fun _ _ _ h => h) hS ?_ rfl ?_
    rotate_left
    · refine Or.inl ⟨rfl, fun W hW => ?_⟩
      dsimp only at hW
      have hx0 := (hW.cell (p := ⟨w.heap.size, 0, none⟩) (by simp)).trans hc0
      go_simp
      try rfl
    try simp only [Act.put, List.setIfInBounds_toArray, List.set_cons_zero, List.set_cons_succ]
    refine region_op (i := 8) (oi := ⟨none, (Op.store 83 (Operand.tmp 3) (Operand.tmp 10)), 0, _, _, none⟩) #[true, true, true, true, true, true, true, true, true, false] rfl (by kernel_rfl) rfl rfl ?_
    intro K hK
    refine wp_store 83 _ _ rfl _ 0 83 [.string ⟨#[]⟩, .nilFunc] [.string ⟨#[]⟩, .nilFunc] ?_ rfl rfl (by kernel_rfl) (by simp) rfl [.string ⟨#[]⟩, .nilFunc] rfl ?_; (· (try simp only [alloc_drew, heap_drew]; first | exact heap_alloc_new _ _ | exact hp1 _ _ _ | exact hp2 _ _ _ _ | exact hp3 _ _ _ _ _ | exact hq1 _ _ _ | exact hq2 _ _ _ _ | exact hq3 _ _ _ _ _ | exact hr2 _ _ _ _ | exact hr3 _ _ _ _ _ | (simp; done)))
    refine hK _ _ ⟨?_, fun hS => ?_⟩
    · (show Below _ _ _; repeat (first | exact Below.refl _ _ | assumption | refine Below.drew ?_ | refine Below.alloc ?_ (by first | omega | (simp; done) | (simp; omega) | (simp [World.setCell]; omega)) _ | refine Below.setCell ?_ (by first | omega | (simp; done) | (simp; omega) | (simp [World.setCell]; omega)) _ | refine below_setRow ?_ (by first | omega | (simp; done) | (simp; omega) | (simp [World.setCell]; omega)) _ | (refine Below.trans ?_ (Below.mono (by assumption) (by first | omega | (simp; done) | (simp; omega) | (simp [World.setCell]; omega))))))
    try simp only [Act.put, List.setIfInBounds_toArray, List.set_cons_zero, List.set_cons_succ]
    refine region_take (i := 9) (oi := ⟨(some 4), (Op.assign (Operand.tmp 11)), 4, _, _, none⟩) (v := ?_) #[true, true, true, true, true, true, true, true, true, true] rfl (by kernel_rfl) (by kernel_rfl) (by kernel_rfl) (fun _ _ _ h => h) hS ?_ rfl ?_
    rotate_left
    · refine Or.inl ⟨rfl, fun W hW => ?_⟩
      dsimp only at hW
      have hx0 := (hW.cell (p := ⟨w.heap.size, 0, none⟩) (by simp)).trans hc0
      go_simp
      try rfl
    try simp only [Act.put, List.setIfInBounds_toArray, List.set_cons_zero, List.set_cons_succ]
    refine anyH_forget (F := (fun W => Below (w.heap.size + 1) (w.alloc (.cells #[.int .i64 op, .int .i64 size, .int .u32 addr, .bool idx, .int .u32 data, .int .i64 to, .int .i64 k, .int .i64 ix, .int .i64 wo, .int .i64 li, .bool on, .int .i64 rw, .int .u32 rf, .int .u32 rt, .bool rd, .bool wr, .int .i64 rk, .bool lk] 33)) W)) hS ?_
    rintro w5 hB5
    refine wpAnyH_done (by kernel_rfl) ?_ _
    clear hS hc0
    go_wp2
    go_ret
    exact ⟨rfl, ((Below.refl _ _).alloc (Nat.le_refl _) _).trans (hB5.mono (by omega))⟩
end Go.Proofs.YtmjojlacpgdomaaGreatDoor
