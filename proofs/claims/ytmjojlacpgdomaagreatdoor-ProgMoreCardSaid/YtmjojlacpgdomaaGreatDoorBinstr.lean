import Derived.Test.YtmjojlacpgdomaaGreatDoorBkinds
import Derived.Test.YtmjojlacpgdomaaGreatDoorAconf2
import Derived.Deep.RegionHeld3
/-! prog.Instr: whether an instruction is right. -/
namespace Go.Proofs.YtmjojlacpgdomaaGreatDoor
set_option linter.unusedSimpArgs false
set_option linter.unusedVariables false
open Go Go.RowKit
attribute [local go_sem] setRow_new setRow_old
theorem wp_lookK {o : Oper} {a : Act} {w : World} {K : Act → World → Prop} {Q : Exit → Act → World → Prop} (m key : Operand) (n : Int) (v : Value) (i b : Nat) (ho : o.op = .lookup 85 m key true) (hm : a.eval m = .map (some b)) (hk : a.eval key = .int .i64 n)
    (hn : Instr.findNow (.int .i64) (.int .i64 n) (kindEs 10).toList 0 = some (some (i, v))) (hb : w.heap[b]? = some (.map (kindEs 10) 10))
    (h : K (a.put o.dst (.tuple #[v, .bool true])) w) : o.wp Tryz.prog a w K Q := by
  unfold Oper.wp
  simp [execOp, ho, hm, hk, run_lookup_known w Tryz.underlying85 Tryz.underlying23 hb hn, Result.andThen]
  exact h
theorem wp_lookK1 {o : Oper} {a : Act} {w : World} {K : Act → World → Prop} {Q : Exit → Act → World → Prop} (m key : Operand) (n : Int) (v : Value) (i b : Nat) (ho : o.op = .lookup 85 m key false) (hm : a.eval m = .map (some b)) (hk : a.eval key = .int .i64 n)
    (hn : Instr.findNow (.int .i64) (.int .i64 n) (kindEs 10).toList 0 = some (some (i, v))) (hb : w.heap[b]? = some (.map (kindEs 10) 10))
    (h : K (a.put o.dst v) w) : o.wp Tryz.prog a w K Q := by
  unfold Oper.wp
  simp [execOp, ho, hm, hk, run_lookup_known w Tryz.underlying85 Tryz.underlying23 hb hn, Result.andThen]
  exact h
theorem wp_lookN {o : Oper} {a : Act} {w : World} {K : Act → World → Prop} {Q : Exit → Act → World → Prop} (m key : Operand) (n : Int) (b : Nat) (ho : o.op = .lookup 85 m key true) (hm : a.eval m = .map (some b)) (hk : a.eval key = .int .i64 n)
    (hn : Instr.findNow (.int .i64) (.int .i64 n) (kindEs 10).toList 0 = some none) (hb : w.heap[b]? = some (.map (kindEs 10) 10))
    (h : K (a.put o.dst (.tuple #[.agg #[.string ⟨#[]⟩, .nilFunc], .bool false])) w) : o.wp Tryz.prog a w K Q := by
  have hz : (zeroValue 83).run Tryz.prog w = .ok (.agg #[.string ⟨#[]⟩, .nilFunc]) w := by kernel_rfl
  unfold Oper.wp
  simp [execOp, ho, hm, hk, run_lookup_none w Tryz.underlying85 Tryz.underlying23 hb hn hz, Result.andThen]
  exact h
theorem rowc {w : World} {b : Nat} {t : TypeId} {cs : List Value} (h : w.heap[b]? = some (.cells cs.toArray t (0, 0))) (i : Nat) : w.cell? ⟨b, i, none⟩ = cs[i]? := by
  simp [World.cell?, h]
theorem heap_drew (w : World) : w.drew.heap = w.heap := rfl
theorem alloc_drew (w : World) (o : Obj) : w.drew.alloc o = (w.alloc o).drew := rfl
theorem below_setRow {B : Nat} {a w : World} (h : Below B a w) {g : Nat} (hg : B ≤ g) (c : Array Value) : Below B a (w.setRow g c) :=
  h.trans ⟨rfl, rfl, rfl, by simp [World.setRow], fun k hk => by simp only [World.setRow, Array.getElem?_modify]; rw [if_neg (by omega)]⟩
theorem wp_store {P : Program} {o : Oper} {a : Act} {w : World} {K : Act → World → Prop} {Q : Exit → Act → World → Prop}
    (ty : TypeId) (x y : Operand) (ho : o.op = .store ty x y)
    (g off t : Nat) (old vs : List Value) (hg : w.heap[g]? = some (.cells old.toArray t (0, 0)))
    (hx : a.eval x = .pointer (some ⟨g, off, none⟩)) (hy : a.eval y = .agg vs.toArray)
    (hi : (P.info? ty).map (·.size) = some vs.length) (hl : off + vs.length ≤ old.length) (h1 : vs.all (·.oneCell') = true)
    (new : List Value) (hn : old.take off ++ vs ++ old.drop (off + vs.length) = new)
    (h : K (a.put o.dst undef) (w.setRow g new.toArray)) : o.wp P a w K Q := by
  subst hn
  unfold Oper.wp execOp
  simp only [ho, hx, hy, Instr.storeAt, Instr.sureAddr, Sem.run_bind, Sem.run_pure, Result.andThen_ok, run_storeVar_at hg hi hl h1]
  exact h
theorem anyH_forget {P : Program} {m : Region.Mode} {ops : Array Oper} {Q : Exit → Act → World → Prop} {S F : World → Prop} {fuel : Nat} {L : Array Bool} {a : Act} {w : World} (h : F w) (k : ∀ w', F w' → wpAnyH P m ops Q S fuel L a w') : wpAnyH P m ops Q S fuel L a w := k w h
set_option maxRecDepth 100000 in
set_option maxHeartbeats 1000000 in
theorem instr_1 (size addr data to k ix wo li rw rf rt rk : Int) (idx on rd wr lk : Bool) (w : World) :
    Calls Tryz.prog 15 #[.agg #[.int .i64 1, .int .i64 size, .int .u32 addr, .bool idx, .int .u32 data, .int .i64 to, .int .i64 k, .int .i64 ix, .int .i64 wo, .int .i64 li, .bool on, .int .i64 rw, .int .u32 rf, .int .u32 rt, .bool rd, .bool wr, .int .i64 rk, .bool lk]] w fun e w' => e = .returned (.bool ((size == 1 || (size == 2 || size == 4)) && insNone 0 0 false data to ⟨k, ix, wo, li, ⟨on, rw, rf, rt, rd, wr, rk, lk⟩⟩)) ∧ Below w.heap.size w w' := by
  have hc0 : (w.alloc (.cells #[.int .i64 1, .int .i64 size, .int .u32 addr, .bool idx, .int .u32 data, .int .i64 to, .int .i64 k, .int .i64 ix, .int .i64 wo, .int .i64 li, .bool on, .int .i64 rw, .int .u32 rf, .int .u32 rt, .bool rd, .bool wr, .int .i64 rk, .bool lk] 33)).cell? ⟨w.heap.size, 0, none⟩ = some (.int .i64 1) := by simp
  have hcl : (w.alloc (.cells #[.int .i64 1, .int .i64 size, .int .u32 addr, .bool idx, .int .u32 data, .int .i64 to, .int .i64 k, .int .i64 ix, .int .i64 wo, .int .i64 li, .bool on, .int .i64 rw, .int .u32 rf, .int .u32 rt, .bool rd, .bool wr, .int .i64 rk, .bool lk] 33)).heap[w.heap.size]? = some (.cells #[.int .i64 1, .int .i64 size, .int .u32 addr, .bool idx, .int .u32 data, .int .i64 to, .int .i64 k, .int .i64 ix, .int .i64 wo, .int .i64 li, .bool on, .int .i64 rw, .int .u32 rf, .int .u32 rt, .bool rd, .bool wr, .int .i64 rk, .bool lk] 33) := heap_alloc_new _ _
  go_enter Tryz.func15, Tryz.ntmps15
  go_wp2_with fail
  refine region_start (S := (fun W => Below (w.heap.size + 1) (w.alloc (.cells #[.int .i64 1, .int .i64 size, .int .u32 addr, .bool idx, .int .u32 data, .int .i64 to, .int .i64 k, .int .i64 ix, .int .i64 wo, .int .i64 li, .bool on, .int .i64 rw, .int .u32 rf, .int .u32 rt, .bool rd, .bool wr, .int .i64 rk, .bool lk] 33)) W)) 10 rfl #[false, false, false, false, false, false, false, false, false, false] rfl (by kernel_rfl) ?_
  refine region_s ?_ ?_
  · (show Below _ _ _; repeat (first | exact Below.refl _ _ | assumption | refine Below.drew ?_ | refine Below.alloc ?_ (by first | omega | (simp; done) | (simp; omega) | (simp [World.setCell]; omega)) _ | refine Below.setCell ?_ (by first | omega | (simp; done) | (simp; omega) | (simp [World.setCell]; omega)) _ | refine below_setRow ?_ (by first | omega | (simp; done) | (simp; omega) | (simp [World.setCell]; omega)) _ | (refine Below.trans ?_ (Below.mono (by assumption) (by first | omega | (simp; done) | (simp; omega) | (simp [World.setCell]; omega))))))
  intro hS
  refine region_take (i := 1) (oi := ⟨(some 7), (Op.fieldAddr 33 (Operand.tmp 1) 0), 0, _, _, none⟩) (v := ?_) #[false, true, false, false, false, false, false, false, false, false] rfl (by kernel_rfl) (by kernel_rfl) (by kernel_rfl) (fun _ _ _ h => h) hS ?_ rfl ?_
  rotate_left
  · refine Or.inl ⟨rfl, fun W hW => ?_⟩
    dsimp only at hW
    have hx0 := (hW.cell (p := ⟨w.heap.size, 0, none⟩) (by simp)).trans hc0
    go_simp
    try rfl
  try simp only [Act.put, List.setIfInBounds_toArray, List.set_cons_zero, List.set_cons_succ]
  refine region_take (i := 2) (oi := ⟨(some 8), (Op.load 23 (Operand.tmp 7)), 23, _, _, none⟩) (v := ?_) #[false, true, true, false, false, false, false, false, false, false] rfl (by kernel_rfl) (by kernel_rfl) (by kernel_rfl) (fun _ _ _ h => h) hS ?_ rfl ?_
  rotate_left
  · refine Or.inl ⟨rfl, fun W hW => ?_⟩
    dsimp only at hW
    have hx0 := (hW.cell (p := ⟨w.heap.size, 0, none⟩) (by simp)).trans hc0
    go_simp
    try rfl
  try simp only [Act.put, List.setIfInBounds_toArray, List.set_cons_zero, List.set_cons_succ]
  refine region_two (i := 0) (j := 7) (oi := ⟨(some 6), (Op.call { callee := (Callee.value (Operand.func 45)), args := #[], argTypes := #[] }), 85, _, _, none⟩) (oj := ⟨(some 3), (Op.alloc 83), 0, _, _, none⟩) #[true, true, true, false, false, false, false, false, false, false] #[false, true, true, false, false, false, false, true, false, false] rfl rfl (by kernel_rfl) rfl rfl rfl rfl ?_ ?_
  · intro K hK
    go_simp; refine (mapKinds_any _).mono ?_; rintro e w1 ⟨rfl, rfl⟩
    refine hK _ _ ⟨?_, fun hS => ?_⟩
    · (show Below _ _ _; repeat (first | exact Below.refl _ _ | assumption | refine Below.drew ?_ | refine Below.alloc ?_ (by first | omega | (simp; done) | (simp; omega) | (simp [World.setCell]; omega)) _ | refine Below.setCell ?_ (by first | omega | (simp; done) | (simp; omega) | (simp [World.setCell]; omega)) _ | refine below_setRow ?_ (by first | omega | (simp; done) | (simp; omega) | (simp [World.setCell]; omega)) _ | (refine Below.trans ?_ (Below.mono (by assumption) (by first | omega | (simp; done) | (simp; omega) | (simp [World.setCell]; omega))))))
    try simp only [Act.put, List.setIfInBounds_toArray, List.set_cons_zero, List.set_cons_succ]
    refine region_two (i := 3) (j := 7) (oi := ⟨(some 9), (Op.lookup 85 (Operand.tmp 6) (Operand.tmp 8) true), 84, _, _, none⟩) (oj := ⟨(some 3), (Op.alloc 83), 0, _, _, none⟩) #[true, true, true, true, false, false, false, false, false, false] #[true, true, true, false, false, false, false, true, false, false] rfl rfl (by kernel_rfl) rfl rfl rfl rfl ?_ ?_
    · intro K hK
      refine wp_lookK _ _ 1 (kindV [108, 111, 97, 100] 105) 0 _ rfl rfl rfl rfl ?_ ?_; (· (try simp only [alloc_drew, heap_drew]; first | exact heap_alloc_new _ _ | exact hp1 _ _ _ | exact hp2 _ _ _ _ | exact hp3 _ _ _ _ _ | exact hq1 _ _ _ | exact hq2 _ _ _ _ | exact hq3 _ _ _ _ _ | exact hr2 _ _ _ _ | exact hr3 _ _ _ _ _ | (simp; done)))
      refine hK _ _ ⟨?_, fun hS => ?_⟩
      · (show Below _ _ _; repeat (first | exact Below.refl _ _ | assumption | refine Below.drew ?_ | refine Below.alloc ?_ (by first | omega | (simp; done) | (simp; omega) | (simp [World.setCell]; omega)) _ | refine Below.setCell ?_ (by first | omega | (simp; done) | (simp; omega) | (simp [World.setCell]; omega)) _ | refine below_setRow ?_ (by first | omega | (simp; done) | (simp; omega) | (simp [World.setCell]; omega)) _ | (refine Below.trans ?_ (Below.mono (by assumption) (by first | omega | (simp; done) | (simp; omega) | (simp [World.setCell]; omega))))))
      try simp only [Act.put, List.setIfInBounds_toArray, List.set_cons_zero, List.set_cons_succ]
      refine region_take (i := 4) (oi := ⟨(some 5), (Op.move (Operand.tmp 9)), 84, _, _, none⟩) (v := ?_) #[true, true, true, true, true, false, false, false, false, false] rfl (by kernel_rfl) (by kernel_rfl) (by kernel_rfl) (fun _ _ _ h => h) hS ?_ rfl ?_
      rotate_left
      · refine Or.inl ⟨rfl, fun W hW => ?_⟩
        dsimp only at hW
        have hx0 := (hW.cell (p := ⟨w.heap.size, 0, none⟩) (by simp)).trans hc0
        go_simp
        try rfl
      try simp only [Act.put, List.setIfInBounds_toArray, List.set_cons_zero, List.set_cons_succ]
      refine region_take (i := 5) (oi := ⟨(some 10), (Op.extract (Operand.tmp 5) 0), 83, _, _, none⟩) (v := ?_) #[true, true, true, true, true, true, false, false, false, false] rfl (by kernel_rfl) (by kernel_rfl) (by kernel_rfl) (fun _ _ _ h => h) hS ?_ rfl ?_
      rotate_left
      · refine Or.inl ⟨rfl, fun W hW => ?_⟩
        dsimp only at hW
        have hx0 := (hW.cell (p := ⟨w.heap.size, 0, none⟩) (by simp)).trans hc0
        go_simp
        try rfl
      try simp only [Act.put, List.setIfInBounds_toArray, List.set_cons_zero, List.set_cons_succ]
      refine region_take (i := 6) (oi := ⟨(some 11), (Op.extract (Operand.tmp 5) 1), 4, _, _, none⟩) (v := ?_) #[true, true, true, true, true, true, true, false, false, false] rfl (by kernel_rfl) (by kernel_rfl) (by kernel_rfl) (fun _ _ _ h => h) hS ?_ rfl ?_
      rotate_left
      · refine Or.inl ⟨rfl, fun W hW => ?_⟩
        dsimp only at hW
        have hx0 := (hW.cell (p := ⟨w.heap.size, 0, none⟩) (by simp)).trans hc0
        go_simp
        try rfl
      try simp only [Act.put, List.setIfInBounds_toArray, List.set_cons_zero, List.set_cons_succ]
      refine region_op (i := 7) (oi := ⟨(some 3), (Op.alloc 83), 0, _, _, none⟩) #[true, true, true, true, true, true, true, true, false, false] rfl (by kernel_rfl) rfl rfl ?_
      intro K hK
      go_simp
      refine hK _ _ ⟨?_, fun hS => ?_⟩
      · (show Below _ _ _; repeat (first | exact Below.refl _ _ | assumption | refine Below.drew ?_ | refine Below.alloc ?_ (by first | omega | (simp; done) | (simp; omega) | (simp [World.setCell]; omega)) _ | refine Below.setCell ?_ (by first | omega | (simp; done) | (simp; omega) | (simp [World.setCell]; omega)) _ | refine below_setRow ?_ (by first | omega | (simp; done) | (simp; omega) | (simp [World.setCell]; omega)) _ | (refine Below.trans ?_ (Below.mono (by assumption) (by first | omega | (simp; done) | (simp; omega) | (simp [World.setCell]; omega))))))
      try simp only [Act.put, List.setIfInBounds_toArray, List.set_cons_zero, List.set_cons_succ]
      refine region_op (i := 8) (oi := ⟨none, (Op.store 83 (Operand.tmp 3) (Operand.tmp 10)), 0, _, _, none⟩) #[true, true, true, true, true, true, true, true, true, false] rfl (by kernel_rfl) rfl rfl ?_
      intro K hK
      refine wp_store 83 _ _ rfl _ 0 83 [.string ⟨#[]⟩, .nilFunc] [.string ⟨#[108, 111, 97, 100]⟩, .func (.func 105) #[] #[]] ?_ rfl rfl (by kernel_rfl) (by simp) rfl [.string ⟨#[108, 111, 97, 100]⟩, .func (.func 105) #[] #[]] rfl ?_; (· (try simp only [alloc_drew, heap_drew]; first | exact heap_alloc_new _ _ | exact hp1 _ _ _ | exact hp2 _ _ _ _ | exact hp3 _ _ _ _ _ | exact hq1 _ _ _ | exact hq2 _ _ _ _ | exact hq3 _ _ _ _ _ | exact hr2 _ _ _ _ | exact hr3 _ _ _ _ _ | (simp; done)))
      refine hK _ _ ⟨?_, fun hS => ?_⟩
      · (show Below _ _ _; repeat (first | exact Below.refl _ _ | assumption | refine Below.drew ?_ | refine Below.alloc ?_ (by first | omega | (simp; done) | (simp; omega) | (simp [World.setCell]; omega)) _ | refine Below.setCell ?_ (by first | omega | (simp; done) | (simp; omega) | (simp [World.setCell]; omega)) _ | refine below_setRow ?_ (by first | omega | (simp; done) | (simp; omega) | (simp [World.setCell]; omega)) _ | (refine Below.trans ?_ (Below.mono (by assumption) (by first | omega | (simp; done) | (simp; omega) | (simp [World.setCell]; omega))))))
      try simp only [Act.put, List.setIfInBounds_toArray, List.set_cons_zero, List.set_cons_succ]
      refine region_take (i := 9) (oi := ⟨(some 4), (Op.assign (Operand.tmp 11)), 4, _, _, none⟩) (v := ?_) #[true, true, true, true, true, true, true, true, true, true] rfl (by kernel_rfl) (by kernel_rfl) (by kernel_rfl) (fun _ _ _ h => h) hS ?_ rfl ?_
      rotate_left
      · refine Or.inl ⟨rfl, fun W hW => ?_⟩
        dsimp only at hW
        have hx0 := (hW.cell (p := ⟨w.heap.size, 0, none⟩) (by simp)).trans hc0
        go_simp
        try rfl
      try simp only [Act.put, List.setIfInBounds_toArray, List.set_cons_zero, List.set_cons_succ]
      refine anyH_forget (F := (fun W => Below (w.heap.size + 1) (w.alloc (.cells #[.int .i64 1, .int .i64 size, .int .u32 addr, .bool idx, .int .u32 data, .int .i64 to, .int .i64 k, .int .i64 ix, .int .i64 wo, .int .i64 li, .bool on, .int .i64 rw, .int .u32 rf, .int .u32 rt, .bool rd, .bool wr, .int .i64 rk, .bool lk] 33)) W ∧ W.heap[w.heap.size + 1 + 1]? = some (.cells #[.string ⟨#[108, 111, 97, 100]⟩, .func (.func 105) #[] #[]] 83))) ⟨hS, setRow_heap _ _ _ _ _ _ (by (try simp only [alloc_drew, heap_drew]; first | exact heap_alloc_new _ _ | exact hp1 _ _ _ | exact hp2 _ _ _ _ | exact hp3 _ _ _ _ _ | exact hq1 _ _ _ | exact hq2 _ _ _ _ | exact hq3 _ _ _ _ _ | exact hr2 _ _ _ _ | exact hr3 _ _ _ _ _ | (simp; done)))⟩ ?_
      rintro w5 ⟨hB5, hr5⟩
      refine wpAnyH_done (by kernel_rfl) ?_ _
      have hrow := (hB5.block w.heap.size (by omega)).trans hcl
      have hsz := hB5.size
      simp at hsz
      have hc5 := rowc hr5 1
      simp only [List.getElem?_cons_succ, List.getElem?_cons_zero] at hc5
      clear hS hr5 hc0 hcl
      go_wp2_with (first | (go_at_call 105; (with_reducible refine (shLoad_any 1 size addr data to k ix wo li rw rf rt rk idx on rd wr lk _).mono ?_); rintro e w6 ⟨rfl, hb6⟩) | ((with_reducible refine wpl_load 33 _ rfl ?_ w.heap.size 0 ?_ _ _ (CellsAt.of_block hrow) Tryz.underlying33 rfl (by kernel_rfl) ?_); (· rfl); (· rfl)))
      go_ret
      exact ⟨rfl, ((Below.refl _ _).alloc (Nat.le_refl _) _).trans ((hB5.mono (by omega)).trans (hb6.mono (by omega)))⟩
    · intro K hK
      go_simp
      refine hK _ _ ⟨?_, fun hS => ?_⟩
      · (show Below _ _ _; repeat (first | exact Below.refl _ _ | assumption | refine Below.drew ?_ | refine Below.alloc ?_ (by first | omega | (simp; done) | (simp; omega) | (simp [World.setCell]; omega)) _ | refine Below.setCell ?_ (by first | omega | (simp; done) | (simp; omega) | (simp [World.setCell]; omega)) _ | refine below_setRow ?_ (by first | omega | (simp; done) | (simp; omega) | (simp [World.setCell]; omega)) _ | (refine Below.trans ?_ (Below.mono (by assumption) (by first | omega | (simp; done) | (simp; omega) | (simp [World.setCell]; omega))))))
      try simp only [Act.put, List.setIfInBounds_toArray, List.set_cons_zero, List.set_cons_succ]
      refine region_op (i := 3) (oi := ⟨(some 9), (Op.lookup 85 (Operand.tmp 6) (Operand.tmp 8) true), 84, _, _, none⟩) #[true, true, true, true, false, false, false, true, false, false] rfl (by kernel_rfl) rfl rfl ?_
      intro K hK
      refine wp_lookK _ _ 1 (kindV [108, 111, 97, 100] 105) 0 _ rfl rfl rfl rfl ?_ ?_; (· (try simp only [alloc_drew, heap_drew]; first | exact heap_alloc_new _ _ | exact hp1 _ _ _ | exact hp2 _ _ _ _ | exact hp3 _ _ _ _ _ | exact hq1 _ _ _ | exact hq2 _ _ _ _ | exact hq3 _ _ _ _ _ | exact hr2 _ _ _ _ | exact hr3 _ _ _ _ _ | (simp; done)))
      refine hK _ _ ⟨?_, fun hS => ?_⟩
      · (show Below _ _ _; repeat (first | exact Below.refl _ _ | assumption | refine Below.drew ?_ | refine Below.alloc ?_ (by first | omega | (simp; done) | (simp; omega) | (simp [World.setCell]; omega)) _ | refine Below.setCell ?_ (by first | omega | (simp; done) | (simp; omega) | (simp [World.setCell]; omega)) _ | refine below_setRow ?_ (by first | omega | (simp; done) | (simp; omega) | (simp [World.setCell]; omega)) _ | (refine Below.trans ?_ (Below.mono (by assumption) (by first | omega | (simp; done) | (simp; omega) | (simp [World.setCell]; omega))))))
      try simp only [Act.put, List.setIfInBounds_toArray, List.set_cons_zero, List.set_cons_succ]
      refine region_take (i := 4) (oi := ⟨(some 5), (Op.move (Operand.tmp 9)), 84, _, _, none⟩) (v := ?_) #[true, true, true, true, true, false, false, true, false, false] rfl (by kernel_rfl) (by kernel_rfl) (by kernel_rfl) (fun _ _ _ h => h) hS ?_ rfl ?_
      rotate_left
      · refine Or.inl ⟨rfl, fun W hW => ?_⟩
        dsimp only at hW
        have hx0 := (hW.cell (p := ⟨w.heap.size, 0, none⟩) (by simp)).trans hc0
        go_simp
        try rfl
      try simp only [Act.put, List.setIfInBounds_toArray, List.set_cons_zero, List.set_cons_succ]
      refine region_take (i := 5) (oi := ⟨(some 10), (Op.extract (Operand.tmp 5) 0), 83, _, _, none⟩) (v := ?_) #[true, true, true, true, true, true, false, true, false, false] rfl (by kernel_rfl) (by kernel_rfl) (by kernel_rfl) (fun _ _ _ h => h) hS ?_ rfl ?_
      rotate_left
      · refine Or.inl ⟨rfl, fun W hW => ?_⟩
        dsimp only at hW
        have hx0 := (hW.cell (p := ⟨w.heap.size, 0, none⟩) (by simp)).trans hc0
        go_simp
        try rfl
      try simp only [Act.put, List.setIfInBounds_toArray, List.set_cons_zero, List.set_cons_succ]
      refine region_take (i := 6) (oi := ⟨(some 11), (Op.extract (Operand.tmp 5) 1), 4, _, _, none⟩) (v := ?_) #[true, true, true, true, true, true, true, true, false, false] rfl (by kernel_rfl) (by kernel_rfl) (by kernel_rfl) (fun _ _ _ h => h) hS ?_ rfl ?_
      rotate_left
      · refine Or.inl ⟨rfl, fun W hW => ?_⟩
        dsimp only at hW
        have hx0 := (hW.cell (p := ⟨w.heap.size, 0, none⟩) (by simp)).trans hc0
        go_simp
        try rfl
      try simp only [Act.put, List.setIfInBounds_toArray, List.set_cons_zero, List.set_cons_succ]
      refine region_op (i := 8) (oi := ⟨none, (Op.store 83 (Operand.tmp 3) (Operand.tmp 10)), 0, _, _, none⟩) #[true, true, true, true, true, true, true, true, true, false] rfl (by kernel_rfl) rfl rfl ?_
      intro K hK
      refine wp_store 83 _ _ rfl _ 0 83 [.string ⟨#[]⟩, .nilFunc] [.string ⟨#[108, 111, 97, 100]⟩, .func (.func 105) #[] #[]] ?_ rfl rfl (by kernel_rfl) (by simp) rfl [.string ⟨#[108, 111, 97, 100]⟩, .func (.func 105) #[] #[]] rfl ?_; (· (try simp only [alloc_drew, heap_drew]; first | exact heap_alloc_new _ _ | exact hp1 _ _ _ | exact hp2 _ _ _ _ | exact hp3 _ _ _ _ _ | exact hq1 _ _ _ | exact hq2 _ _ _ _ | exact hq3 _ _ _ _ _ | exact hr2 _ _ _ _ | exact hr3 _ _ _ _ _ | (simp; done)))
      refine hK _ _ ⟨?_, fun hS => ?_⟩
      · (show Below _ _ _; repeat (first | exact Below.refl _ _ | assumption | refine Below.drew ?_ | refine Below.alloc ?_ (by first | omega | (simp; done) | (simp; omega) | (simp [World.setCell]; omega)) _ | refine Below.setCell ?_ (by first | omega | (simp; done) | (simp; omega) | (simp [World.setCell]; omega)) _ | refine below_setRow ?_ (by first | omega | (simp; done) | (simp; omega) | (simp [World.setCell]; omega)) _ | (refine Below.trans ?_ (Below.mono (by assumption) (by first | omega | (simp; done) | (simp; omega) | (simp [World.setCell]; omega))))))
      try simp only [Act.put, List.setIfInBounds_toArray, List.set_cons_zero, List.set_cons_succ]
      refine region_take (i := 9) (oi := ⟨(some 4), (Op.assign (Operand.tmp 11)), 4, _, _, none⟩) (v := ?_) #[true, true, true, true, true, true, true, true, true, true] rfl (by kernel_rfl) (by kernel_rfl) (by kernel_rfl) (fun _ _ _ h => h) hS ?_ rfl ?_
      rotate_left
      · refine Or.inl ⟨rfl, fun W hW => ?_⟩
        dsimp only at hW
        have hx0 := (hW.cell (p := ⟨w.heap.size, 0, none⟩) (by simp)).trans hc0
        go_simp
        try rfl
      try simp only [Act.put, List.setIfInBounds_toArray, List.set_cons_zero, List.set_cons_succ]
      refine anyH_forget (F := (fun W => Below (w.heap.size + 1) (w.alloc (.cells #[.int .i64 1, .int .i64 size, .int .u32 addr, .bool idx, .int .u32 data, .int .i64 to, .int .i64 k, .int .i64 ix, .int .i64 wo, .int .i64 li, .bool on, .int .i64 rw, .int .u32 rf, .int .u32 rt, .bool rd, .bool wr, .int .i64 rk, .bool lk] 33)) W ∧ W.heap[w.heap.size + 1 + 1]? = some (.cells #[.string ⟨#[108, 111, 97, 100]⟩, .func (.func 105) #[] #[]] 83))) ⟨hS, setRow_heap _ _ _ _ _ _ (by (try simp only [alloc_drew, heap_drew]; first | exact heap_alloc_new _ _ | exact hp1 _ _ _ | exact hp2 _ _ _ _ | exact hp3 _ _ _ _ _ | exact hq1 _ _ _ | exact hq2 _ _ _ _ | exact hq3 _ _ _ _ _ | exact hr2 _ _ _ _ | exact hr3 _ _ _ _ _ | (simp; done)))⟩ ?_
      rintro w5 ⟨hB5, hr5⟩
      refine wpAnyH_done (by kernel_rfl) ?_ _
      have hrow := (hB5.block w.heap.size (by omega)).trans hcl
      have hsz := hB5.size
      simp at hsz
      have hc5 := rowc hr5 1
      simp only [List.getElem?_cons_succ, List.getElem?_cons_zero] at hc5
      clear hS hr5 hc0 hcl
      go_wp2_with (first | (go_at_call 105; (with_reducible refine (shLoad_any 1 size addr data to k ix wo li rw rf rt rk idx on rd wr lk _).mono ?_); rintro e w6 ⟨rfl, hb6⟩) | ((with_reducible refine wpl_load 33 _ rfl ?_ w.heap.size 0 ?_ _ _ (CellsAt.of_block hrow) Tryz.underlying33 rfl (by kernel_rfl) ?_); (· rfl); (· rfl)))
      go_ret
      exact ⟨rfl, ((Below.refl _ _).alloc (Nat.le_refl _) _).trans ((hB5.mono (by omega)).trans (hb6.mono (by omega)))⟩
  · intro K hK
    go_simp
    refine hK _ _ ⟨?_, fun hS => ?_⟩
    · (show Below _ _ _; repeat (first | exact Below.refl _ _ | assumption | refine Below.drew ?_ | refine Below.alloc ?_ (by first | omega | (simp; done) | (simp; omega) | (simp [World.setCell]; omega)) _ | refine Below.setCell ?_ (by first | omega | (simp; done) | (simp; omega) | (simp [World.setCell]; omega)) _ | refine below_setRow ?_ (by first | omega | (simp; done) | (simp; omega) | (simp [World.setCell]; omega)) _ | (refine Below.trans ?_ (Below.mono (by assumption) (by first | omega | (simp; done) | (simp; omega) | (simp [World.setCell]; omega))))))
    try simp only [Act.put, List.setIfInBounds_toArray, List.set_cons_zero, List.set_cons_succ]
    refine region_op (i := 0) (oi := ⟨(some 6), (Op.call { callee := (Callee.value (Operand.func 45)), args := #[], argTypes := #[] }), 85, _, _, none⟩) #[true, true, true, false, false, false, false, true, false, false] rfl (by kernel_rfl) rfl rfl ?_
    intro K hK
    go_simp; refine (mapKinds_any _).mono ?_; rintro e w1 ⟨rfl, rfl⟩
    refine hK _ _ ⟨?_, fun hS => ?_⟩
    · (show Below _ _ _; repeat (first | exact Below.refl _ _ | assumption | refine Below.drew ?_ | refine Below.alloc ?_ (by first | omega | (simp; done) | (simp; omega) | (simp [World.setCell]; omega)) _ | refine Below.setCell ?_ (by first | omega | (simp; done) | (simp; omega) | (simp [World.setCell]; omega)) _ | refine below_setRow ?_ (by first | omega | (simp; done) | (simp; omega) | (simp [World.setCell]; omega)) _ | (refine Below.trans ?_ (Below.mono (by assumption) (by first | omega | (simp; done) | (simp; omega) | (simp [World.setCell]; omega))))))
    try simp only [Act.put, List.setIfInBounds_toArray, List.set_cons_zero, List.set_cons_succ]
    refine region_op (i := 3) (oi := ⟨(some 9), (Op.lookup 85 (Operand.tmp 6) (Operand.tmp 8) true), 84, _, _, none⟩) #[true, true, true, true, false, false, false, true, false, false] rfl (by kernel_rfl) rfl rfl ?_
    intro K hK
    refine wp_lookK _ _ 1 (kindV [108, 111, 97, 100] 105) 0 _ rfl rfl rfl rfl ?_ ?_; (· (try simp only [alloc_drew, heap_drew]; first | exact heap_alloc_new _ _ | exact hp1 _ _ _ | exact hp2 _ _ _ _ | exact hp3 _ _ _ _ _ | exact hq1 _ _ _ | exact hq2 _ _ _ _ | exact hq3 _ _ _ _ _ | exact hr2 _ _ _ _ | exact hr3 _ _ _ _ _ | (simp; done)))
    refine hK _ _ ⟨?_, fun hS => ?_⟩
    · (show Below _ _ _; repeat (first | exact Below.refl _ _ | assumption | refine Below.drew ?_ | refine Below.alloc ?_ (by first | omega | (simp; done) | (simp; omega) | (simp [World.setCell]; omega)) _ | refine Below.setCell ?_ (by first | omega | (simp; done) | (simp; omega) | (simp [World.setCell]; omega)) _ | refine below_setRow ?_ (by first | omega | (simp; done) | (simp; omega) | (simp [World.setCell]; omega)) _ | (refine Below.trans ?_ (Below.mono (by assumption) (by first | omega | (simp; done) | (simp; omega) | (simp [World.setCell]; omega))))))
    try simp only [Act.put, List.setIfInBounds_toArray, List.set_cons_zero, List.set_cons_succ]
    refine region_take (i := 4) (oi := ⟨(some 5), (Op.move (Operand.tmp 9)), 84, _, _, none⟩) (v := ?_) #[true, true, true, true, true, false, false, true, false, false] rfl (by kernel_rfl) (by kernel_rfl) (by kernel_rfl) (fun _ _ _ h => h) hS ?_ rfl ?_
    rotate_left
    · refine Or.inl ⟨rfl, fun W hW => ?_⟩
      dsimp only at hW
      have hx0 := (hW.cell (p := ⟨w.heap.size, 0, none⟩) (by simp)).trans hc0
      go_simp
      try rfl
    try simp only [Act.put, List.setIfInBounds_toArray, List.set_cons_zero, List.set_cons_succ]
    refine region_take (i := 5) (oi := ⟨(some 10), (Op.extract (Operand.tmp 5) 0), 83, _, _, none⟩) (v := ?_) #[true, true, true, true, true, true, false, true, false, false] rfl (by kernel_rfl) (by kernel_rfl) (by kernel_rfl) (fun _ _ _ h => h) hS ?_ rfl ?_
    rotate_left
    · refine Or.inl ⟨rfl, fun W hW => ?_⟩
      dsimp only at hW
      have hx0 := (hW.cell (p := ⟨w.heap.size, 0, none⟩) (by simp)).trans hc0
      go_simp
      try rfl
    try simp only [Act.put, List.setIfInBounds_toArray, List.set_cons_zero, List.set_cons_succ]
    refine region_take (i := 6) (oi := ⟨(some 11), (Op.extract (Operand.tmp 5) 1), 4, _, _, none⟩) (v := ?_) #[true, true, true, true, true, true, true, true, false, false] rfl (by kernel_rfl) (by kernel_rfl) (by kernel_rfl) (fun _ _ _ h => h) hS ?_ rfl ?_
    rotate_left
    · refine Or.inl ⟨rfl, fun W hW => ?_⟩
      dsimp only at hW
      have hx0 := (hW.cell (p := ⟨w.heap.size, 0, none⟩) (by simp)).trans hc0
      go_simp
      try rfl
    try simp only [Act.put, List.setIfInBounds_toArray, List.set_cons_zero, List.set_cons_succ]
    refine region_op (i := 8) (oi := ⟨none, (Op.store 83 (Operand.tmp 3) (Operand.tmp 10)), 0, _, _, none⟩) #[true, true, true, true, true, true, true, true, true, false] rfl (by kernel_rfl) rfl rfl ?_
    intro K hK
    refine wp_store 83 _ _ rfl _ 0 83 [.string ⟨#[]⟩, .nilFunc] [.string ⟨#[108, 111, 97, 100]⟩, .func (.func 105) #[] #[]] ?_ rfl rfl (by kernel_rfl) (by simp) rfl [.string ⟨#[108, 111, 97, 100]⟩, .func (.func 105) #[] #[]] rfl ?_; (· (try simp only [alloc_drew, heap_drew]; first | exact heap_alloc_new _ _ | exact hp1 _ _ _ | exact hp2 _ _ _ _ | exact hp3 _ _ _ _ _ | exact hq1 _ _ _ | exact hq2 _ _ _ _ | exact hq3 _ _ _ _ _ | exact hr2 _ _ _ _ | exact hr3 _ _ _ _ _ | (simp; done)))
    refine hK _ _ ⟨?_, fun hS => ?_⟩
    · (show Below _ _ _; repeat (first | exact Below.refl _ _ | assumption | refine Below.drew ?_ | refine Below.alloc ?_ (by first | omega | (simp; done) | (simp; omega) | (simp [World.setCell]; omega)) _ | refine Below.setCell ?_ (by first | omega | (simp; done) | (simp; omega) | (simp [World.setCell]; omega)) _ | refine below_setRow ?_ (by first | omega | (simp; done) | (simp; omega) | (simp [World.setCell]; omega)) _ | (refine Below.trans ?_ (Below.mono (by assumption) (by first | omega | (simp; done) | (simp; omega) | (simp [World.setCell]; omega))))))
    try simp only [Act.put, List.setIfInBounds_toArray, List.set_cons_zero, List.set_cons_succ]
    refine region_take (i := 9) (oi := ⟨(some 4), (Op.assign (Operand.tmp 11)), 4, _, _, none⟩) (v := ?_) #[true, true, true, true, true, true, true, true, true, true] rfl (by kernel_rfl) (by kernel_rfl) (by kernel_rfl) (fun _ _ _ h => h) hS ?_ rfl ?_
    rotate_left
    · refine Or.inl ⟨rfl, fun W hW => ?_⟩
      dsimp only at hW
      have hx0 := (hW.cell (p := ⟨w.heap.size, 0, none⟩) (by simp)).trans hc0
      go_simp
      try rfl
    try simp only [Act.put, List.setIfInBounds_toArray, List.set_cons_zero, List.set_cons_succ]
    refine anyH_forget (F := (fun W => Below (w.heap.size + 1) (w.alloc (.cells #[.int .i64 1, .int .i64 size, .int .u32 addr, .bool idx, .int .u32 data, .int .i64 to, .int .i64 k, .int .i64 ix, .int .i64 wo, .int .i64 li, .bool on, .int .i64 rw, .int .u32 rf, .int .u32 rt, .bool rd, .bool wr, .int .i64 rk, .bool lk] 33)) W ∧ W.heap[w.heap.size + 1]? = some (.cells #[.string ⟨#[108, 111, 97, 100]⟩, .func (.func 105) #[] #[]] 83))) ⟨hS, setRow_heap _ _ _ _ _ _ (by (try simp only [alloc_drew, heap_drew]; first | exact heap_alloc_new _ _ | exact hp1 _ _ _ | exact hp2 _ _ _ _ | exact hp3 _ _ _ _ _ | exact hq1 _ _ _ | exact hq2 _ _ _ _ | exact hq3 _ _ _ _ _ | exact hr2 _ _ _ _ | exact hr3 _ _ _ _ _ | (simp; done)))⟩ ?_
    rintro w5 ⟨hB5, hr5⟩
    refine wpAnyH_done (by kernel_rfl) ?_ _
    have hrow := (hB5.block w.heap.size (by omega)).trans hcl
    have hsz := hB5.size
    simp at hsz
    have hc5 := rowc hr5 1
    simp only [List.getElem?_cons_succ, List.getElem?_cons_zero] at hc5
    clear hS hr5 hc0 hcl
    go_wp2_with (first | (go_at_call 105; (with_reducible refine (shLoad_any 1 size addr data to k ix wo li rw rf rt rk idx on rd wr lk _).mono ?_); rintro e w6 ⟨rfl, hb6⟩) | ((with_reducible refine wpl_load 33 _ rfl ?_ w.heap.size 0 ?_ _ _ (CellsAt.of_block hrow) Tryz.underlying33 rfl (by kernel_rfl) ?_); (· rfl); (· rfl)))
    go_ret
    exact ⟨rfl, ((Below.refl _ _).alloc (Nat.le_refl _) _).trans ((hB5.mono (by omega)).trans (hb6.mono (by omega)))⟩
end Go.Proofs.YtmjojlacpgdomaaGreatDoor
