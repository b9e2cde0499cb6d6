import Derived.Test.YtmjojlacpgdomaaGreatDoorBshow
import Derived.Deep.DeepCutAuto
import Derived.Deep.CutBlock
/-! conf.Read. -/
namespace Go.Proofs.YtmjojlacpgdomaaGreatDoor
set_option linter.unusedSimpArgs false
set_option linter.unusedVariables false
open Go Go.RowKit
attribute [local go_sem] setRow_new setRow_old
theorem split_any (s : ByteArray) (hs : s.size < 4294967281) (c : UInt8) (w : World) (hG : Glob w) :
    Calls Tryz.prog 56 #[.string s, .string ⟨#[c]⟩] w fun e w' => e = .returned (.slice (some ⟨w.heap.size, 0, none⟩) (cut c s).length (cut c s).length) ∧ w' = w.alloc (.cells ((cut c s).map Value.string).toArray 9) := by
  refine (Tryz.strings_Split_shaped s ⟨#[c]⟩ w hG.shp hs (by simp [ByteArray.size])).mono ?_
  rintro e w' ⟨rfl, rfl⟩
  have hl := Lib.splitB_all ⟨#[c]⟩ (by simp [ByteArray.size]) 0 (Lib.countB s ⟨#[c]⟩) s rfl
  rw [cut_split] at hl ⊢
  rw [← hl]
  exact ⟨rfl, rfl⟩
theorem parts_small (c : UInt8) : ∀ l : List UInt8, (parts c l).length ≤ l.length + 1 ∧ ∀ p ∈ parts c l, p.length ≤ l.length
  | [] => by simp [parts]
  | x :: r => by
    have ⟨h1, h2⟩ := parts_small c r
    unfold parts
    split
    · refine ⟨by simp; omega, fun p hp => ?_⟩
      rcases List.mem_cons.1 hp with rfl | hp
      · simp
      · have := h2 p hp; simp; omega
    · cases hp : parts c r with
      | nil => exact (parts_ne c r hp).elim
      | cons q ps =>
        rw [hp] at h1 h2
        refine ⟨by simp at h1 ⊢; omega, fun p hpm => ?_⟩
        rcases List.mem_cons.1 hpm with rfl | hpm
        · have := h2 q (by simp); simp; omega
        · have := h2 p (by simp [hpm]); simp; omega
theorem cut_small (c : UInt8) (s : ByteArray) : (cut c s).length ≤ s.size + 1 ∧ ∀ x ∈ cut c s, x.size ≤ s.size := by
  have ⟨h1, h2⟩ := parts_small c s.data.toList
  have hs : s.data.toList.length = s.size := Array.length_toList
  rw [hs] at h1 h2
  refine ⟨by unfold cut; rw [List.length_map]; exact h1, fun x hx => ?_⟩
  obtain ⟨p, hp, rfl⟩ := List.mem_map.1 hx
  rw [size_mk]
  exact h2 p hp
theorem cut_small' (c : UInt8) (s : ByteArray) (hs : s.size < 4294967281) : Small (cut c s) := fun x hx => by
  have := (cut_small c s).2 x hx; omega
theorem env_row {pb : Nat} {w : World} (h : Env pb w) {g : Nat} (hg : pb ≤ g) (c : Array Value) : Env pb (w.setRow g c) :=
  let ⟨w0, h0, hl, hb⟩ := h; ⟨w0, h0, hl, below_setRow hb (Nat.le_trans hl hg) c⟩
theorem kidx_any (b : Nat) (x : ByteArray) (w : World) (hb : w.heap[b]? = some (.cells (kindWords.map str).toArray 9 (0, 0))) :
    Calls Tryz.prog 169 #[.slice (some ⟨b, 0, none⟩) 8 8, .string x] w fun e w' => e = .returned (.int .i64 (kindOf x)) ∧ w' = w := by
  refine (Tryz.slices_Index_string b 0 8 8 (kindWords.map mk) x w (by decide) (by decide) (fun j hj => ?_)).mono ?_
  · have hj' : j < 8 := by simpa [kindWords] using hj
    simp only [World.cell?, hb]
    simp only [Nat.zero_add, List.getElem?_toArray, List.getElem?_map, List.getD_eq_getElem?_getD, List.getElem?_eq_getElem (show j < kindWords.length from hj'), Option.map_some, Option.getD_some]
    rfl
  · rintro e w' ⟨rfl, rfl⟩
    refine ⟨?_, rfl⟩
    rw [kindOf, List.take_of_length_le (by simp [kindWords])]
def CutC (w : World) (pb b5 : Nat) (ws : List ByteArray) (wx : World) : Prop :=
  (∃ ws', Rd pb 235 wx ws' (scanCmd ws).2) ∧ wx.heap[b5]? = some (.cells (scanCmd ws).1.cells.toArray 31 (0, 0)) ∧ wx.heap[w.heap.size]? = some (.cells #[.int .i64 0, .int .i64 0, .int .i64 0, .int .i64 0, .bool false, .int .i64 0, .int .u32 0, .int .u32 0, .bool false, .bool false, .int .i64 0, .bool false] 31 (0, 0)) ∧ Below w.heap.size w wx ∧ Env pb wx
theorem str_ne2 {s : ByteArray} {l : List UInt8} (h : ¬ (⟨l.toArray⟩ : ByteArray) = s) : (l == s.toList) = false := by
  have h1 := str_ne (x := s) (l := l) (fun e => h e.symm)
  rw [beq_eq_false_iff_ne] at h1 ⊢
  exact fun e => h1 e.symm
def readC (s : ByteArray) : Cmd := (readCmd s).getD .zero
def readE (s : ByteArray) : Int := if (readCmd s).isSome then 0 else 8
theorem scan_k (ws : List ByteArray) (k : Int) (h : kindOf (hd ws) = k) : scanCmd ws =
    if k = 7 then (⟨7, 0, 0, 0, .zero⟩, !isNil ws)
    else if k = 1 then (⟨1, num16 (hd ws.tail), 0, 0, regOf ws.tail.tail⟩, regOk (!isNil ws && !isNil ws.tail && puOk (dec16 (hd ws.tail))) ws.tail.tail)
    else if k = 3 ∨ k = 5 then (⟨k, num16 (hd ws.tail), num16 (hd ws.tail.tail), 0, .zero⟩, !isNil ws && !isNil ws.tail && puOk (dec16 (hd ws.tail)) && !isNil ws.tail.tail && puOk (dec16 (hd ws.tail.tail)))
    else if k = 6 then (⟨6, num16 (hd ws.tail), 0, lineV ws.tail.tail, .zero⟩, !isNil ws && !isNil ws.tail && puOk (dec16 (hd ws.tail)) && lineOk ws.tail.tail)
    else (⟨k, num16 (hd ws.tail), 0, 0, .zero⟩, !isNil ws && !isNil ws.tail && puOk (dec16 (hd ws.tail))) := by
  subst h; rfl
theorem scan_fit (ws : List ByteArray) : (scanCmd ws).1.Fit := by
  have hz : Reg.zero.rf = 0 ∧ Reg.zero.rt = 0 := ⟨rfl, rfl⟩
  have h1 := adr32_le (hd ws.tail.tail.tail)
  have h2 := adr32_le (hd ws.tail.tail.tail.tail)
  unfold scanCmd
  split
  · simp [Cmd.Fit, hz]
  split
  · simp only [Cmd.Fit, regOf]; omega
  split
  · simp [Cmd.Fit, hz]
  split
  · simp [Cmd.Fit, hz]
  · simp [Cmd.Fit, hz]
theorem readCmd_eq (s : ByteArray) : readCmd s = if (scanCmd (cut 32 s)).2 && (cmdRight (scanCmd (cut 32 s)).1 && decide (mk (cmdText (scanCmd (cut 32 s)).1) = s)) then some (scanCmd (cut 32 s)).1 else none := rfl
theorem results_cell_row2 {P : Program} {fn : Func} {p u : Tmp} {ty : TypeId} (h : fn.results = #[.cell p ty, .tmp u]) (tmps : Array Value) (w : World) (g : Nat) (t : TypeId) (cs : Array Value) (fr : Nat × Nat) (d : TypeDesc)
    (hp : tmps.getD p undef = .pointer (some ⟨g, 0, none⟩)) (hg : w.heap[g]? = some (.cells cs t fr))
    (hu : P.underlying ty = some d) (hd : (match d with | .struct _ | .array _ _ => true | _ => false) = true) (hi : (P.info? ty).map (·.size) = some cs.size) :
    (results fn tmps).run P w = .ok (.tuple #[.agg cs, tmps.getD u undef]) w := by
  rw [results_cell_tmp h, hp]
  simp [asAddr, run_loadVar_row w g t ty cs fr d hg hu hd hi, Result.andThen]
def CutB (w : World) (pb b5 : Nat) (ws : List ByteArray) (k : Int) (wx : World) : Prop :=
  Rd pb 235 wx (if k = 7 then ws.tail else ws.tail.tail) (if k = 7 then !isNil ws else (!isNil ws && !isNil ws.tail && puOk (dec16 (hd ws.tail)))) ∧
    wx.heap[b5]? = some (.cells (Cmd.cells ⟨k, if k = 7 then 0 else (num16 (hd ws.tail) : Nat), 0, 0, .zero⟩).toArray 31 (0, 0)) ∧ wx.heap[w.heap.size]? = some (.cells #[.int .i64 0, .int .i64 0, .int .i64 0, .int .i64 0, .bool false, .int .i64 0, .int .u32 0, .int .u32 0, .bool false, .bool false, .int .i64 0, .bool false] 31 (0, 0)) ∧ Below w.heap.size w wx ∧ Env pb wx
def CutA (w : World) (pb : Nat) (ws : List ByteArray) (s5 : Value) (wx : World) : Prop :=
  ∃ b5, s5 = .pointer (some ⟨b5, 0, none⟩) ∧ pb < b5 ∧ Rd pb 235 wx ws.tail (!isNil ws) ∧ wx.heap[b5]? = some (.cells #[.int .i64 (kindOf (Go.Proofs.YtmjojlacpgdomaaGreatDoor.hd ws)), .int .i64 0, .int .i64 0, .int .i64 0, .bool false, .int .i64 0, .int .u32 0, .int .u32 0, .bool false, .bool false, .int .i64 0, .bool false] 31 (0, 0)) ∧ wx.heap[w.heap.size]? = some (.cells #[.int .i64 0, .int .i64 0, .int .i64 0, .int .i64 0, .bool false, .int .i64 0, .int .u32 0, .int .u32 0, .bool false, .bool false, .int .i64 0, .bool false] 31 (0, 0)) ∧ Below w.heap.size w wx ∧ Env pb wx
set_option maxRecDepth 100000 in
set_option maxHeartbeats 2000000 in
theorem cread_any (s : ByteArray) (hs : s.size ≤ 1000000) (w : World) (hG : Glob w) :
    Calls Tryz.prog 137 #[.string s] w fun e w' => e = .returned (.tuple #[.agg (readC s).cells.toArray, .int .i64 (readE s)]) ∧ Below w.heap.size w w' := by
  have hws := cut_small' 32 s (by omega)
  have hwl := (cut_small 32 s).1
  have hkk := Lib.hid (rfl : kindOf (hd (cut 32 s)) = kindOf (hd (cut 32 s)))
  obtain ⟨ws, hws0⟩ : ∃ ws, ws = cut 32 s := ⟨_, rfl⟩
  have Hws := Lib.hid hws0
  rw [← hws0] at hws hwl
  clear hws0 hkk
  have hsp := split_any s (by omega) 32
  rw [← Hws.out] at hsp
  go_enter Tryz.func137, Tryz.ntmps137
  go_upto_region 2 with (go_at_call 56; (with_reducible refine (hsp _ (by exact hG.alloc _)).mono ?_); rintro e w1 ⟨rfl, rfl⟩)
  have hR0 : Rd (w.heap.size + 1 + 1) 235 (((w.alloc (.cells #[.int .i64 0, .int .i64 0, .int .i64 0, .int .i64 0, .bool false, .int .i64 0, .int .u32 0, .int .u32 0, .bool false, .bool false, .int .i64 0, .bool false] 31)).alloc (.cells (ws.map Value.string).toArray 9)).alloc (.cells #[.slice (some ⟨w.heap.size + 1, 0, none⟩) ws.length ws.length, .bool true] 235)) ws true := ⟨.slice (some ⟨w.heap.size + 1, 0, none⟩) ws.length ws.length, by ((try (simp only [alloc_drew, heap_drew])); first | exact heap_alloc_new _ _ | exact hp1 _ _ _ | exact hp2 _ _ _ _ | exact hp3 _ _ _ _ _ | exact hq1 _ _ _ | exact hq2 _ _ _ _ | exact hq3 _ _ _ _ _ | exact hr2 _ _ _ _ | exact hr3 _ _ _ _ _ | (simp; done)), ⟨_, _, rfl, Nat.le_refl _, by omega, fun _ => ⟨w.heap.size + 1, 0, rfl, by omega, fun j x hj => by
    have : ((((w.alloc (.cells #[.int .i64 0, .int .i64 0, .int .i64 0, .int .i64 0, .bool false, .int .i64 0, .int .u32 0, .int .u32 0, .bool false, .bool false, .int .i64 0, .bool false] 31)).alloc (.cells (ws.map Value.string).toArray 9)).alloc (.cells #[.slice (some ⟨w.heap.size + 1, 0, none⟩) ws.length ws.length, .bool true] 235))).heap[w.heap.size + 1]? = some (.cells (ws.map Value.string).toArray 9 (0, 0)) := by ((try (simp only [alloc_drew, heap_drew])); first | exact heap_alloc_new _ _ | exact hp1 _ _ _ | exact hp2 _ _ _ _ | exact hp3 _ _ _ _ _ | exact hq1 _ _ _ | exact hq2 _ _ _ _ | exact hq3 _ _ _ _ _ | exact hr2 _ _ _ _ | exact hr3 _ _ _ _ _ | (simp; done))
    simp only [World.cell?, this, Nat.zero_add]; simpa using hj⟩⟩⟩
  have hZ0 : ((((w.alloc (.cells #[.int .i64 0, .int .i64 0, .int .i64 0, .int .i64 0, .bool false, .int .i64 0, .int .u32 0, .int .u32 0, .bool false, .bool false, .int .i64 0, .bool false] 31)).alloc (.cells (ws.map Value.string).toArray 9)).alloc (.cells #[.slice (some ⟨w.heap.size + 1, 0, none⟩) ws.length ws.length, .bool true] 235))).heap[w.heap.size]? = some (.cells #[.int .i64 0, .int .i64 0, .int .i64 0, .int .i64 0, .bool false, .int .i64 0, .int .u32 0, .int .u32 0, .bool false, .bool false, .int .i64 0, .bool false] 31 (0, 0)) := by ((try (simp only [alloc_drew, heap_drew])); first | exact heap_alloc_new _ _ | exact hp1 _ _ _ | exact hp2 _ _ _ _ | exact hp3 _ _ _ _ _ | exact hq1 _ _ _ | exact hq2 _ _ _ _ | exact hq3 _ _ _ _ _ | exact hr2 _ _ _ _ | exact hr3 _ _ _ _ _ | (simp; done))
  have hB0 : Below w.heap.size w (((w.alloc (.cells #[.int .i64 0, .int .i64 0, .int .i64 0, .int .i64 0, .bool false, .int .i64 0, .int .u32 0, .int .u32 0, .bool false, .bool false, .int .i64 0, .bool false] 31)).alloc (.cells (ws.map Value.string).toArray 9)).alloc (.cells #[.slice (some ⟨w.heap.size + 1, 0, none⟩) ws.length ws.length, .bool true] 235)) := by (show Below _ _ _; repeat (first | exact Below.refl _ _ | assumption | refine Below.drew ?_ | refine Below.alloc ?_ (by first | omega | (simp; done) | (simp; omega) | (simp [World.setCell]; omega)) _ | refine Below.setCell ?_ (by first | omega | (simp; done) | (simp; omega) | (simp [World.setCell]; omega)) _ | refine below_setRow ?_ (by first | omega | (simp; done) | (simp; omega) | (simp [World.setCell]; omega)) _ | (refine Below.trans ?_ (Below.mono (by assumption) (by first | omega | (simp; done) | (simp; omega) | (simp [World.setCell]; omega))))))
  have hE0 : Env (w.heap.size + 1 + 1) (((w.alloc (.cells #[.int .i64 0, .int .i64 0, .int .i64 0, .int .i64 0, .bool false, .int .i64 0, .int .u32 0, .int .u32 0, .bool false, .bool false, .int .i64 0, .bool false] 31)).alloc (.cells (ws.map Value.string).toArray 9)).alloc (.cells #[.slice (some ⟨w.heap.size + 1, 0, none⟩) ws.length ws.length, .bool true] 235)) := ⟨w, hG, by omega, hB0⟩
  have hs0 : ((((w.alloc (.cells #[.int .i64 0, .int .i64 0, .int .i64 0, .int .i64 0, .bool false, .int .i64 0, .int .u32 0, .int .u32 0, .bool false, .bool false, .int .i64 0, .bool false] 31)).alloc (.cells (ws.map Value.string).toArray 9)).alloc (.cells #[.slice (some ⟨w.heap.size + 1, 0, none⟩) ws.length ws.length, .bool true] 235))).heap.size = w.heap.size + 1 + 1 + 1 := by simp
  generalize (((w.alloc (.cells #[.int .i64 0, .int .i64 0, .int .i64 0, .int .i64 0, .bool false, .int .i64 0, .int .u32 0, .int .u32 0, .bool false, .bool false, .int .i64 0, .bool false] 31)).alloc (.cells (ws.map Value.string).toArray 9)).alloc (.cells #[.slice (some ⟨w.heap.size + 1, 0, none⟩) ws.length ws.length, .bool true] 235)) = w0 at hR0 hZ0 hB0 hE0 hs0 ⊢
  obtain ⟨pb, hpb⟩ : ∃ pb, pb = w.heap.size + 1 + 1 := ⟨_, rfl⟩
  rw [← hpb] at hR0 hE0 hs0 ⊢
  have Hpb := Lib.hid hpb
  have hpb1 : w.heap.size < pb := by omega
  have hs0' : pb < w0.heap.size := by omega
  clear hpb hs0
  have hE0d : Env pb w0.drew := hE0.but ((But.refl pb w0).drew)
  have hB0d : Below w.heap.size w w0.drew := hB0.drew
  go_cut [5] (CutA w pb ws)
  case first =>
    refine region_start (S := (fun _ => True)) 9 rfl #[false, false, false, false, false, false, false, false, false] rfl (by kernel_rfl) ?_
    refine region_s ?_ ?_
    · trivial
    intro hS
    refine region_take (i := 1) (oi := ⟨(some 14), (Op.move (Operand.tmp 4)), 231, _, _, none⟩) (v := ?_) #[false, true, false, false, false, false, false, false, false] rfl (by kernel_rfl) (by kernel_rfl) (by kernel_rfl) (fun _ _ _ h => h) hS ?_ rfl ?_
    rotate_left
    · refine Or.inl ⟨rfl, fun W hW => ?_⟩
      dsimp only at hW
      go_simp
      try rfl
    try simp only [Act.put, List.setIfInBounds_toArray, List.set_cons_zero, List.set_cons_succ]
    refine region_take (i := 2) (oi := ⟨(some 15), (Op.nilCheck (Operand.tmp 14)), 0, _, _, none⟩) (v := ?_) #[false, true, true, false, false, false, false, false, false] rfl (by kernel_rfl) (by kernel_rfl) (by kernel_rfl) (fun _ _ _ h => h) hS ?_ rfl ?_
    rotate_left
    · refine Or.inl ⟨rfl, fun W hW => ?_⟩
      dsimp only at hW
      go_simp
      try rfl
    try simp only [Act.put, List.setIfInBounds_toArray, List.set_cons_zero, List.set_cons_succ]
    refine region_take (i := 3) (oi := ⟨(some 16), (Op.fieldAddr 235 (Operand.tmp 15) 0), 0, _, _, none⟩) (v := ?_) #[false, true, true, true, false, false, false, false, false] rfl (by kernel_rfl) (by kernel_rfl) (by kernel_rfl) (fun _ _ _ h => h) hS ?_ rfl ?_
    rotate_left
    · refine Or.inl ⟨rfl, fun W hW => ?_⟩
      dsimp only at hW
      go_simp
      try rfl
    try simp only [Act.put, List.setIfInBounds_toArray, List.set_cons_zero, List.set_cons_succ]
    refine region_two (i := 0) (j := 7) (oi := ⟨(some 13), (Op.call { callee := (Callee.value (Operand.func 130)), args := #[], argTypes := #[] }), 43, _, _, none⟩) (oj := ⟨(some 5), (Op.alloc 31), 0, _, _, none⟩) #[true, true, true, true, false, false, false, false, false] #[false, true, true, true, false, false, false, true, false] rfl rfl (by kernel_rfl) rfl rfl rfl rfl ?_ ?_
    · intro K hK
      go_simp; refine (kinds_any _).mono ?_; rintro e w1 ⟨rfl, rfl⟩; have R1 := (show Rd pb 235 w0.drew _ _ from hR0).alloc (.cells (kindWords.map str).toArray 9); have E1 := (show Env pb w0.drew from hE0d).alloc (.cells (kindWords.map str).toArray 9); have Z1 := (Below.heap_alloc w0.drew (.cells (kindWords.map str).toArray 9) _ (heap_lt hZ0)).trans hZ0; have K1 := heap_alloc_new w0.drew (.cells (kindWords.map str).toArray 9); have B1 := Below.alloc (show Below w.heap.size w w0.drew from hB0d) (by have := (hB0d).size; exact this) (.cells (kindWords.map str).toArray 9)
      refine hK _ _ ⟨?_, fun hS => ?_⟩
      · trivial
      try simp only [Act.put, List.setIfInBounds_toArray, List.set_cons_zero, List.set_cons_succ]
      refine region_two (i := 4) (j := 7) (oi := ⟨(some 17), (Op.call { callee := (Callee.value (Operand.func 218)), args := #[(Operand.tmp 16)], argTypes := #[233] }), 9, _, _, none⟩) (oj := ⟨(some 5), (Op.alloc 31), 0, _, _, none⟩) #[true, true, true, true, true, false, false, false, false] #[true, true, true, true, false, false, false, true, false] rfl rfl (by kernel_rfl) rfl rfl rfl rfl ?_ ?_
      · intro K hK
        go_simp; refine (take_any pb 235 ws true _ (by exact R1)).mono ?_; rintro e wt ⟨rfl, R2, bt⟩; have E2 := (E1).but bt; have Z2 := (bt.block _ (heap_lt Z1) (by first | omega | (have := R1.lt; omega) | simp; omega)).trans Z1; have K2 := (bt.block _ (heap_lt K1) (by first | omega | (have := R1.lt; omega) | simp; omega)).trans K1; have B2 := (show Below w.heap.size w (w0.drew.alloc (.cells (kindWords.map str).toArray 9)) from B1).trans (bt.below (by omega) (B1).size)
        refine hK _ _ ⟨?_, fun hS => ?_⟩
        · trivial
        try simp only [Act.put, List.setIfInBounds_toArray, List.set_cons_zero, List.set_cons_succ]
        refine region_two (i := 5) (j := 7) (oi := ⟨(some 18), (Op.call { callee := (Callee.value (Operand.func 169)), args := #[(Operand.tmp 13), (Operand.tmp 17)], argTypes := #[43, 9] }), 3, _, _, none⟩) (oj := ⟨(some 5), (Op.alloc 31), 0, _, _, none⟩) #[true, true, true, true, true, true, false, false, false] #[true, true, true, true, true, false, false, true, false] rfl rfl (by kernel_rfl) rfl rfl rfl rfl ?_ ?_
        · intro K hK
          go_simp; refine (kidx_any _ _ _ (by simpa using K2)).mono ?_; rintro e wi ⟨rfl, hwi⟩; have hwi' := hwi.symm; subst hwi'
          refine hK _ _ ⟨?_, fun hS => ?_⟩
          · trivial
          try simp only [Act.put, List.setIfInBounds_toArray, List.set_cons_zero, List.set_cons_succ]
          refine region_take (i := 6) (oi := ⟨(some 19), (Op.build 31 #[(0, (Operand.tmp 18))]), 31, _, _, none⟩) (v := ?_) #[true, true, true, true, true, true, true, false, false] rfl (by kernel_rfl) (by kernel_rfl) (by kernel_rfl) (fun _ _ _ h => h) hS ?_ rfl ?_
          rotate_left
          · refine Or.inl ⟨rfl, fun W hW => ?_⟩
            dsimp only at hW
            go_simp
            try rfl
          try simp only [Act.put, List.setIfInBounds_toArray, List.set_cons_zero, List.set_cons_succ]
          refine region_op (i := 7) (oi := ⟨(some 5), (Op.alloc 31), 0, _, _, none⟩) #[true, true, true, true, true, true, true, true, false] rfl (by kernel_rfl) rfl rfl ?_
          intro K hK
          go_simp; have R4 := (show Rd pb 235 wt _ _ from R2).alloc (.cells #[.int .i64 0, .int .i64 0, .int .i64 0, .int .i64 0, .bool false, .int .i64 0, .int .u32 0, .int .u32 0, .bool false, .bool false, .int .i64 0, .bool false] 31); have E4 := (show Env pb wt from E2).alloc (.cells #[.int .i64 0, .int .i64 0, .int .i64 0, .int .i64 0, .bool false, .int .i64 0, .int .u32 0, .int .u32 0, .bool false, .bool false, .int .i64 0, .bool false] 31); have Z4 := (Below.heap_alloc wt (.cells #[.int .i64 0, .int .i64 0, .int .i64 0, .int .i64 0, .bool false, .int .i64 0, .int .u32 0, .int .u32 0, .bool false, .bool false, .int .i64 0, .bool false] 31) _ (heap_lt Z2)).trans Z2; have K4 := (Below.heap_alloc wt (.cells #[.int .i64 0, .int .i64 0, .int .i64 0, .int .i64 0, .bool false, .int .i64 0, .int .u32 0, .int .u32 0, .bool false, .bool false, .int .i64 0, .bool false] 31) _ (heap_lt K2)).trans K2; have C4 := heap_alloc_new wt (.cells #[.int .i64 0, .int .i64 0, .int .i64 0, .int .i64 0, .bool false, .int .i64 0, .int .u32 0, .int .u32 0, .bool false, .bool false, .int .i64 0, .bool false] 31); have B4 := Below.alloc (show Below w.heap.size w wt from B2) (by have := (B2).size; exact this) (.cells #[.int .i64 0, .int .i64 0, .int .i64 0, .int .i64 0, .bool false, .int .i64 0, .int .u32 0, .int .u32 0, .bool false, .bool false, .int .i64 0, .bool false] 31)
          refine hK _ _ ⟨?_, fun hS => ?_⟩
          · trivial
          try simp only [Act.put, List.setIfInBounds_toArray, List.set_cons_zero, List.set_cons_succ]
          refine region_op (i := 8) (oi := ⟨none, (Op.store 31 (Operand.tmp 5) (Operand.tmp 19)), 0, _, _, none⟩) #[true, true, true, true, true, true, true, true, true] rfl (by kernel_rfl) rfl rfl ?_
          intro K hK
          refine wp_store 31 _ _ rfl _ 0 31 [.int .i64 0, .int .i64 0, .int .i64 0, .int .i64 0, .bool false, .int .i64 0, .int .u32 0, .int .u32 0, .bool false, .bool false, .int .i64 0, .bool false] [.int .i64 (kindOf (Go.Proofs.YtmjojlacpgdomaaGreatDoor.hd ws)), .int .i64 0, .int .i64 0, .int .i64 0, .bool false, .int .i64 0, .int .u32 0, .int .u32 0, .bool false, .bool false, .int .i64 0, .bool false] (by simpa using C4) rfl rfl (by kernel_rfl) (by simp) rfl [.int .i64 (kindOf (Go.Proofs.YtmjojlacpgdomaaGreatDoor.hd ws)), .int .i64 0, .int .i64 0, .int .i64 0, .bool false, .int .i64 0, .int .u32 0, .int .u32 0, .bool false, .bool false, .int .i64 0, .bool false] rfl ?_
          refine hK _ _ ⟨?_, fun hS => ?_⟩
          · trivial
          try simp only [Act.put, List.setIfInBounds_toArray, List.set_cons_zero, List.set_cons_succ]
          refine wpAnyH_done (by kernel_rfl) ?_ _
          go_wp2_with fail
          go_meet
          case rel =>
            exact ⟨_, rfl, by have := (R2).lt; omega, (R2).alloc _, heap_alloc_new _ _, (Below.heap_alloc _ _ _ (heap_lt Z2)).trans Z2, Below.alloc B2 (B2).size _, (E2).alloc _⟩
        · intro K hK
          go_simp; have R3 := (show Rd pb 235 wt _ _ from R2).alloc (.cells #[.int .i64 0, .int .i64 0, .int .i64 0, .int .i64 0, .bool false, .int .i64 0, .int .u32 0, .int .u32 0, .bool false, .bool false, .int .i64 0, .bool false] 31); have E3 := (show Env pb wt from E2).alloc (.cells #[.int .i64 0, .int .i64 0, .int .i64 0, .int .i64 0, .bool false, .int .i64 0, .int .u32 0, .int .u32 0, .bool false, .bool false, .int .i64 0, .bool false] 31); have Z3 := (Below.heap_alloc wt (.cells #[.int .i64 0, .int .i64 0, .int .i64 0, .int .i64 0, .bool false, .int .i64 0, .int .u32 0, .int .u32 0, .bool false, .bool false, .int .i64 0, .bool false] 31) _ (heap_lt Z2)).trans Z2; have K3 := (Below.heap_alloc wt (.cells #[.int .i64 0, .int .i64 0, .int .i64 0, .int .i64 0, .bool false, .int .i64 0, .int .u32 0, .int .u32 0, .bool false, .bool false, .int .i64 0, .bool false] 31) _ (heap_lt K2)).trans K2; have C3 := heap_alloc_new wt (.cells #[.int .i64 0, .int .i64 0, .int .i64 0, .int .i64 0, .bool false, .int .i64 0, .int .u32 0, .int .u32 0, .bool false, .bool false, .int .i64 0, .bool false] 31); have B3 := Below.alloc (show Below w.heap.size w wt from B2) (by have := (B2).size; exact this) (.cells #[.int .i64 0, .int .i64 0, .int .i64 0, .int .i64 0, .bool false, .int .i64 0, .int .u32 0, .int .u32 0, .bool false, .bool false, .int .i64 0, .bool false] 31)
          refine hK _ _ ⟨?_, fun hS => ?_⟩
          · trivial
          try simp only [Act.put, List.setIfInBounds_toArray, List.set_cons_zero, List.set_cons_succ]
          refine region_op (i := 5) (oi := ⟨(some 18), (Op.call { callee := (Callee.value (Operand.func 169)), args := #[(Operand.tmp 13), (Operand.tmp 17)], argTypes := #[43, 9] }), 3, _, _, none⟩) #[true, true, true, true, true, true, false, true, false] rfl (by kernel_rfl) rfl rfl ?_
          intro K hK
          go_simp; refine (kidx_any _ _ _ (by simpa using K3)).mono ?_; rintro e wi ⟨rfl, hwi⟩; have hwi' := hwi.symm; subst hwi'
          refine hK _ _ ⟨?_, fun hS => ?_⟩
          · trivial
          try simp only [Act.put, List.setIfInBounds_toArray, List.set_cons_zero, List.set_cons_succ]
          refine region_take (i := 6) (oi := ⟨(some 19), (Op.build 31 #[(0, (Operand.tmp 18))]), 31, _, _, none⟩) (v := ?_) #[true, true, true, true, true, true, true, true, false] rfl (by kernel_rfl) (by kernel_rfl) (by kernel_rfl) (fun _ _ _ h => h) hS ?_ rfl ?_
          rotate_left
          · refine Or.inl ⟨rfl, fun W hW => ?_⟩
            dsimp only at hW
            go_simp
            try rfl
          try simp only [Act.put, List.setIfInBounds_toArray, List.set_cons_zero, List.set_cons_succ]
          refine region_op (i := 8) (oi := ⟨none, (Op.store 31 (Operand.tmp 5) (Operand.tmp 19)), 0, _, _, none⟩) #[true, true, true, true, true, true, true, true, true] rfl (by kernel_rfl) rfl rfl ?_
          intro K hK
          refine wp_store 31 _ _ rfl _ 0 31 [.int .i64 0, .int .i64 0, .int .i64 0, .int .i64 0, .bool false, .int .i64 0, .int .u32 0, .int .u32 0, .bool false, .bool false, .int .i64 0, .bool false] [.int .i64 (kindOf (Go.Proofs.YtmjojlacpgdomaaGreatDoor.hd ws)), .int .i64 0, .int .i64 0, .int .i64 0, .bool false, .int .i64 0, .int .u32 0, .int .u32 0, .bool false, .bool false, .int .i64 0, .bool false] (by simpa using C3) rfl rfl (by kernel_rfl) (by simp) rfl [.int .i64 (kindOf (Go.Proofs.YtmjojlacpgdomaaGreatDoor.hd ws)), .int .i64 0, .int .i64 0, .int .i64 0, .bool false, .int .i64 0, .int .u32 0, .int .u32 0, .bool false, .bool false, .int .i64 0, .bool false] rfl ?_
          refine hK _ _ ⟨?_, fun hS => ?_⟩
          · trivial
          try simp only [Act.put, List.setIfInBounds_toArray, List.set_cons_zero, List.set_cons_succ]
          refine wpAnyH_done (by kernel_rfl) ?_ _
          go_wp2_with fail
          go_meet
          case rel =>
            exact ⟨_, rfl, by have := (R2).lt; omega, (R2).alloc _, heap_alloc_new _ _, (Below.heap_alloc _ _ _ (heap_lt Z2)).trans Z2, Below.alloc B2 (B2).size _, (E2).alloc _⟩
      · intro K hK
        go_simp; have R2 := (show Rd pb 235 (w0.drew.alloc (.cells (kindWords.map str).toArray 9)) _ _ from R1).alloc (.cells #[.int .i64 0, .int .i64 0, .int .i64 0, .int .i64 0, .bool false, .int .i64 0, .int .u32 0, .int .u32 0, .bool false, .bool false, .int .i64 0, .bool false] 31); have E2 := (show Env pb (w0.drew.alloc (.cells (kindWords.map str).toArray 9)) from E1).alloc (.cells #[.int .i64 0, .int .i64 0, .int .i64 0, .int .i64 0, .bool false, .int .i64 0, .int .u32 0, .int .u32 0, .bool false, .bool false, .int .i64 0, .bool false] 31); have Z2 := (Below.heap_alloc (w0.drew.alloc (.cells (kindWords.map str).toArray 9)) (.cells #[.int .i64 0, .int .i64 0, .int .i64 0, .int .i64 0, .bool false, .int .i64 0, .int .u32 0, .int .u32 0, .bool false, .bool false, .int .i64 0, .bool false] 31) _ (heap_lt Z1)).trans Z1; have K2 := (Below.heap_alloc (w0.drew.alloc (.cells (kindWords.map str).toArray 9)) (.cells #[.int .i64 0, .int .i64 0, .int .i64 0, .int .i64 0, .bool false, .int .i64 0, .int .u32 0, .int .u32 0, .bool false, .bool false, .int .i64 0, .bool false] 31) _ (heap_lt K1)).trans K1; have C2 := heap_alloc_new (w0.drew.alloc (.cells (kindWords.map str).toArray 9)) (.cells #[.int .i64 0, .int .i64 0, .int .i64 0, .int .i64 0, .bool false, .int .i64 0, .int .u32 0, .int .u32 0, .bool false, .bool false, .int .i64 0, .bool false] 31); have B2 := Below.alloc (show Below w.heap.size w (w0.drew.alloc (.cells (kindWords.map str).toArray 9)) from B1) (by have := (B1).size; exact this) (.cells #[.int .i64 0, .int .i64 0, .int .i64 0, .int .i64 0, .bool false, .int .i64 0, .int .u32 0, .int .u32 0, .bool false, .bool false, .int .i64 0, .bool false] 31)
        refine hK _ _ ⟨?_, fun hS => ?_⟩
        · trivial
        try simp only [Act.put, List.setIfInBounds_toArray, List.set_cons_zero, List.set_cons_succ]
        refine region_op (i := 4) (oi := ⟨(some 17), (Op.call { callee := (Callee.value (Operand.func 218)), args := #[(Operand.tmp 16)], argTypes := #[233] }), 9, _, _, none⟩) #[true, true, true, true, true, false, false, true, false] rfl (by kernel_rfl) rfl rfl ?_
        intro K hK
        go_simp; refine (take_any pb 235 ws true _ (by exact R2)).mono ?_; rintro e wt ⟨rfl, R3, bt⟩; have E3 := (E2).but bt; have Z3 := (bt.block _ (heap_lt Z2) (by first | omega | (have := R2.lt; omega) | simp; omega)).trans Z2; have K3 := (bt.block _ (heap_lt K2) (by first | omega | (have := R2.lt; omega) | simp; omega)).trans K2; have C3 := (bt.block _ (heap_lt C2) (by first | omega | (have := R2.lt; omega) | simp; omega)).trans C2; have B3 := (show Below w.heap.size w ((w0.drew.alloc (.cells (kindWords.map str).toArray 9)).alloc (.cells #[.int .i64 0, .int .i64 0, .int .i64 0, .int .i64 0, .bool false, .int .i64 0, .int .u32 0, .int .u32 0, .bool false, .bool false, .int .i64 0, .bool false] 31)) from B2).trans (bt.below (by omega) (B2).size)
        refine hK _ _ ⟨?_, fun hS => ?_⟩
        · trivial
        try simp only [Act.put, List.setIfInBounds_toArray, List.set_cons_zero, List.set_cons_succ]
        refine region_op (i := 5) (oi := ⟨(some 18), (Op.call { callee := (Callee.value (Operand.func 169)), args := #[(Operand.tmp 13), (Operand.tmp 17)], argTypes := #[43, 9] }), 3, _, _, none⟩) #[true, true, true, true, true, true, false, true, false] rfl (by kernel_rfl) rfl rfl ?_
        intro K hK
        go_simp; refine (kidx_any _ _ _ (by simpa using K3)).mono ?_; rintro e wi ⟨rfl, hwi⟩; have hwi' := hwi.symm; subst hwi'
        refine hK _ _ ⟨?_, fun hS => ?_⟩
        · trivial
        try simp only [Act.put, List.setIfInBounds_toArray, List.set_cons_zero, List.set_cons_succ]
        refine region_take (i := 6) (oi := ⟨(some 19), (Op.build 31 #[(0, (Operand.tmp 18))]), 31, _, _, none⟩) (v := ?_) #[true, true, true, true, true, true, true, true, false] rfl (by kernel_rfl) (by kernel_rfl) (by kernel_rfl) (fun _ _ _ h => h) hS ?_ rfl ?_
        rotate_left
        · refine Or.inl ⟨rfl, fun W hW => ?_⟩
          dsimp only at hW
          go_simp
          try rfl
        try simp only [Act.put, List.setIfInBounds_toArray, List.set_cons_zero, List.set_cons_succ]
        refine region_op (i := 8) (oi := ⟨none, (Op.store 31 (Operand.tmp 5) (Operand.tmp 19)), 0, _, _, none⟩) #[true, true, true, true, true, true, true, true, true] rfl (by kernel_rfl) rfl rfl ?_
        intro K hK
        refine wp_store 31 _ _ rfl _ 0 31 [.int .i64 0, .int .i64 0, .int .i64 0, .int .i64 0, .bool false, .int .i64 0, .int .u32 0, .int .u32 0, .bool false, .bool false, .int .i64 0, .bool false] [.int .i64 (kindOf (Go.Proofs.YtmjojlacpgdomaaGreatDoor.hd ws)), .int .i64 0, .int .i64 0, .int .i64 0, .bool false, .int .i64 0, .int .u32 0, .int .u32 0, .bool false, .bool false, .int .i64 0, .bool false] (by simpa using C3) rfl rfl (by kernel_rfl) (by simp) rfl [.int .i64 (kindOf (Go.Proofs.YtmjojlacpgdomaaGreatDoor.hd ws)), .int .i64 0, .int .i64 0, .int .i64 0, .bool false, .int .i64 0, .int .u32 0, .int .u32 0, .bool false, .bool false, .int .i64 0, .bool false] rfl ?_
        refine hK _ _ ⟨?_, fun hS => ?_⟩
        · trivial
        try simp only [Act.put, List.setIfInBounds_toArray, List.set_cons_zero, List.set_cons_succ]
        refine wpAnyH_done (by kernel_rfl) ?_ _
        go_wp2_with fail
        go_meet
        case rel =>
          have hC : wt.heap[(w0.heap.size + 1)]? = some (.cells #[.int .i64 0, .int .i64 0, .int .i64 0, .int .i64 0, .bool false, .int .i64 0, .int .u32 0, .int .u32 0, .bool false, .bool false, .int .i64 0, .bool false] 31 (0, 0)) := by simpa using C3
          exact ⟨_, rfl, by omega, (R3).row (by omega) _, setRow_heap _ _ _ _ _ _ hC, (setRow_heap_ne _ _ _ _ (by omega)).trans Z3, below_setRow B3 (by omega) _, env_row E3 (by omega) _⟩
    · intro K hK
      go_simp; have R1 := (show Rd pb 235 w0.drew _ _ from hR0).alloc (.cells #[.int .i64 0, .int .i64 0, .int .i64 0, .int .i64 0, .bool false, .int .i64 0, .int .u32 0, .int .u32 0, .bool false, .bool false, .int .i64 0, .bool false] 31); have E1 := (show Env pb w0.drew from hE0d).alloc (.cells #[.int .i64 0, .int .i64 0, .int .i64 0, .int .i64 0, .bool false, .int .i64 0, .int .u32 0, .int .u32 0, .bool false, .bool false, .int .i64 0, .bool false] 31); have Z1 := (Below.heap_alloc w0.drew (.cells #[.int .i64 0, .int .i64 0, .int .i64 0, .int .i64 0, .bool false, .int .i64 0, .int .u32 0, .int .u32 0, .bool false, .bool false, .int .i64 0, .bool false] 31) _ (heap_lt hZ0)).trans hZ0; have C1 := heap_alloc_new w0.drew (.cells #[.int .i64 0, .int .i64 0, .int .i64 0, .int .i64 0, .bool false, .int .i64 0, .int .u32 0, .int .u32 0, .bool false, .bool false, .int .i64 0, .bool false] 31); have B1 := Below.alloc (show Below w.heap.size w w0.drew from hB0d) (by have := (hB0d).size; exact this) (.cells #[.int .i64 0, .int .i64 0, .int .i64 0, .int .i64 0, .bool false, .int .i64 0, .int .u32 0, .int .u32 0, .bool false, .bool false, .int .i64 0, .bool false] 31)
      refine hK _ _ ⟨?_, fun hS => ?_⟩
      · trivial
      try simp only [Act.put, List.setIfInBounds_toArray, List.set_cons_zero, List.set_cons_succ]
      refine region_op (i := 0) (oi := ⟨(some 13), (Op.call { callee := (Callee.value (Operand.func 130)), args := #[], argTypes := #[] }), 43, _, _, none⟩) #[true, true, true, true, false, false, false, true, false] rfl (by kernel_rfl) rfl rfl ?_
      intro K hK
      go_simp; refine (kinds_any _).mono ?_; rintro e w1 ⟨rfl, rfl⟩; have R2 := (show Rd pb 235 (w0.drew.alloc (.cells #[.int .i64 0, .int .i64 0, .int .i64 0, .int .i64 0, .bool false, .int .i64 0, .int .u32 0, .int .u32 0, .bool false, .bool false, .int .i64 0, .bool false] 31)) _ _ from R1).alloc (.cells (kindWords.map str).toArray 9); have E2 := (show Env pb (w0.drew.alloc (.cells #[.int .i64 0, .int .i64 0, .int .i64 0, .int .i64 0, .bool false, .int .i64 0, .int .u32 0, .int .u32 0, .bool false, .bool false, .int .i64 0, .bool false] 31)) from E1).alloc (.cells (kindWords.map str).toArray 9); have Z2 := (Below.heap_alloc (w0.drew.alloc (.cells #[.int .i64 0, .int .i64 0, .int .i64 0, .int .i64 0, .bool false, .int .i64 0, .int .u32 0, .int .u32 0, .bool false, .bool false, .int .i64 0, .bool false] 31)) (.cells (kindWords.map str).toArray 9) _ (heap_lt Z1)).trans Z1; have C2 := (Below.heap_alloc (w0.drew.alloc (.cells #[.int .i64 0, .int .i64 0, .int .i64 0, .int .i64 0, .bool false, .int .i64 0, .int .u32 0, .int .u32 0, .bool false, .bool false, .int .i64 0, .bool false] 31)) (.cells (kindWords.map str).toArray 9) _ (heap_lt C1)).trans C1; have K2 := heap_alloc_new (w0.drew.alloc (.cells #[.int .i64 0, .int .i64 0, .int .i64 0, .int .i64 0, .bool false, .int .i64 0, .int .u32 0, .int .u32 0, .bool false, .bool false, .int .i64 0, .bool false] 31)) (.cells (kindWords.map str).toArray 9); have B2 := Below.alloc (show Below w.heap.size w (w0.drew.alloc (.cells #[.int .i64 0, .int .i64 0, .int .i64 0, .int .i64 0, .bool false, .int .i64 0, .int .u32 0, .int .u32 0, .bool false, .bool false, .int .i64 0, .bool false] 31)) from B1) (by have := (B1).size; exact this) (.cells (kindWords.map str).toArray 9)
      refine hK _ _ ⟨?_, fun hS => ?_⟩
      · trivial
      try simp only [Act.put, List.setIfInBounds_toArray, List.set_cons_zero, List.set_cons_succ]
      refine region_op (i := 4) (oi := ⟨(some 17), (Op.call { callee := (Callee.value (Operand.func 218)), args := #[(Operand.tmp 16)], argTypes := #[233] }), 9, _, _, none⟩) #[true, true, true, true, true, false, false, true, false] rfl (by kernel_rfl) rfl rfl ?_
      intro K hK
      go_simp; refine (take_any pb 235 ws true _ (by exact R2)).mono ?_; rintro e wt ⟨rfl, R3, bt⟩; have E3 := (E2).but bt; have Z3 := (bt.block _ (heap_lt Z2) (by first | omega | (have := R2.lt; omega) | simp; omega)).trans Z2; have K3 := (bt.block _ (heap_lt K2) (by first | omega | (have := R2.lt; omega) | simp; omega)).trans K2; have C3 := (bt.block _ (heap_lt C2) (by first | omega | (have := R2.lt; omega) | simp; omega)).trans C2; have B3 := (show Below w.heap.size w ((w0.drew.alloc (.cells #[.int .i64 0, .int .i64 0, .int .i64 0, .int .i64 0, .bool false, .int .i64 0, .int .u32 0, .int .u32 0, .bool false, .bool false, .int .i64 0, .bool false] 31)).alloc (.cells (kindWords.map str).toArray 9)) from B2).trans (bt.below (by omega) (B2).size)
      refine hK _ _ ⟨?_, fun hS => ?_⟩
      · trivial
      try simp only [Act.put, List.setIfInBounds_toArray, List.set_cons_zero, List.set_cons_succ]
      refine region_op (i := 5) (oi := ⟨(some 18), (Op.call { callee := (Callee.value (Operand.func 169)), args := #[(Operand.tmp 13), (Operand.tmp 17)], argTypes := #[43, 9] }), 3, _, _, none⟩) #[true, true, true, true, true, true, false, true, false] rfl (by kernel_rfl) rfl rfl ?_
      intro K hK
      go_simp; refine (kidx_any _ _ _ (by simpa using K3)).mono ?_; rintro e wi ⟨rfl, hwi⟩; have hwi' := hwi.symm; subst hwi'
      refine hK _ _ ⟨?_, fun hS => ?_⟩
      · trivial
      try simp only [Act.put, List.setIfInBounds_toArray, List.set_cons_zero, List.set_cons_succ]
      refine region_take (i := 6) (oi := ⟨(some 19), (Op.build 31 #[(0, (Operand.tmp 18))]), 31, _, _, none⟩) (v := ?_) #[true, true, true, true, true, true, true, true, false] rfl (by kernel_rfl) (by kernel_rfl) (by kernel_rfl) (fun _ _ _ h => h) hS ?_ rfl ?_
      rotate_left
      · refine Or.inl ⟨rfl, fun W hW => ?_⟩
        dsimp only at hW
        go_simp
        try rfl
      try simp only [Act.put, List.setIfInBounds_toArray, List.set_cons_zero, List.set_cons_succ]
      refine region_op (i := 8) (oi := ⟨none, (Op.store 31 (Operand.tmp 5) (Operand.tmp 19)), 0, _, _, none⟩) #[true, true, true, true, true, true, true, true, true] rfl (by kernel_rfl) rfl rfl ?_
      intro K hK
      refine wp_store 31 _ _ rfl _ 0 31 [.int .i64 0, .int .i64 0, .int .i64 0, .int .i64 0, .bool false, .int .i64 0, .int .u32 0, .int .u32 0, .bool false, .bool false, .int .i64 0, .bool false] [.int .i64 (kindOf (Go.Proofs.YtmjojlacpgdomaaGreatDoor.hd ws)), .int .i64 0, .int .i64 0, .int .i64 0, .bool false, .int .i64 0, .int .u32 0, .int .u32 0, .bool false, .bool false, .int .i64 0, .bool false] (by simpa using C3) rfl rfl (by kernel_rfl) (by simp) rfl [.int .i64 (kindOf (Go.Proofs.YtmjojlacpgdomaaGreatDoor.hd ws)), .int .i64 0, .int .i64 0, .int .i64 0, .bool false, .int .i64 0, .int .u32 0, .int .u32 0, .bool false, .bool false, .int .i64 0, .bool false] rfl ?_
      refine hK _ _ ⟨?_, fun hS => ?_⟩
      · trivial
      try simp only [Act.put, List.setIfInBounds_toArray, List.set_cons_zero, List.set_cons_succ]
      refine wpAnyH_done (by kernel_rfl) ?_ _
      go_wp2_with fail
      go_meet
      case rel =>
        have hC : wt.heap[w0.heap.size]? = some (.cells #[.int .i64 0, .int .i64 0, .int .i64 0, .int .i64 0, .bool false, .int .i64 0, .int .u32 0, .int .u32 0, .bool false, .bool false, .int .i64 0, .bool false] 31 (0, 0)) := by simpa using C3
        exact ⟨_, rfl, by omega, (R3).row (by omega) _, setRow_heap _ _ _ _ _ _ hC, (setRow_heap_ne _ _ _ _ (by omega)).trans Z3, below_setRow B3 (by omega) _, env_row E3 (by omega) _⟩
  case rest =>
    obtain ⟨b5, rfl, hb5, hR, hC, hZ, hB, hE⟩ := hcut
    clear hR0 hZ0 hB0 hE0 hE0d hB0d hs0' hsp
    generalize hk : kindOf (Go.Proofs.YtmjojlacpgdomaaGreatDoor.hd ws) = k at hC
    have Hk := Lib.hid hk
    clear hk
    have hc0 := row_cell hC 0
    have hf0 := row_hot hC
    simp only [List.getElem?_cons_zero] at hc0
    go_upto_if 22 with fail
    go_cut [] (CutB w pb b5 ws k)
    case first =>
      by_cases h7 : k = 7
      · subst h7
        go_wp2_with fail
        go_meet
        case rel =>
          unfold CutB
          simp only [↓reduceIte]
          exact ⟨hR, hC, hZ, hB, hE⟩
      · have h7' : (k == 7) = false := by simpa using h7
        have Hn := Lib.hid (number_any pb 235 ws.tail (!isNil ws) _ hR hE hws.tail.hd')
        go_wp2_with (go_at_call 219; (with_reducible refine (Hn.out).mono ?_); rintro e wn ⟨rfl, hRn, hbn⟩; have hCn := (hbn.block b5 (heap_lt hC) (by omega)).trans hC; have hfn := row_hot hCn; have hcn := row_cell hCn 1; simp only [List.getElem?_cons_zero, List.getElem?_cons_succ] at hcn)
        go_meet
        case rel =>
          unfold CutB
          simp only [if_neg h7]
          exact ⟨hRn.aside (p := ⟨b5, 1, none⟩) hb5 _, row_put hCn 1 _ rfl, (Below.heap_setCell _ _ _ _ (show w.heap.size ≠ b5 by omega)).trans ((hbn.block _ (heap_lt hZ) (by omega)).trans hZ), (hB.trans (hbn.below (by omega) hB.size)).setCell (p := ⟨b5, 1, none⟩) (show w.heap.size ≤ b5 by omega) _, (hE.but hbn).aside (p := ⟨b5, 1, none⟩) hb5 _⟩
    case rest =>
      obtain ⟨hR, hC, hZ, hB, hE⟩ := hcut
      clear hc0 hf0
      have hc0 := row_cell hC 0
      have hf0 := row_hot hC
      simp only [Cmd.cells, List.getElem?_cons_zero] at hc0
      go_upto_block 0 with fail
      go_cut [] (CutC w pb b5 ws)
      case first =>
        by_cases hk1 : k = 1
        · subst hk1
          simp only [show ¬ ((1 : Int) = 7) by decide, if_false] at hR hC
          have hsc := scan_k ws _ Hk.out
          simp only [Int.reduceEq, ↓reduceIte] at hsc
          have Hn := Lib.hid (region_any pb 235 ws.tail.tail _ _ hR hE hws.tail.tail)
          have Hsc := Lib.hid hsc
          clear hsc
          go_wp2_with (first | (go_at_call 220; (with_reducible refine (Hn.out).mono ?_); rintro e wn ⟨rfl, hRn, hbn⟩; have hCn := (hbn.block b5 (heap_lt hC) (by omega)).trans hC; have hfn := row_hot hCn) | ((guard_target =~ wpList _ _ _ [_] _ _); (refine wpl_store 29 _ _ rfl ?_ b5 4 31 _ (regOf ws.tail.tail).cells hCn ?_ ?_ ?_ ?_ ?_ (Cmd.cells ⟨1, (num16 (Go.Proofs.YtmjojlacpgdomaaGreatDoor.hd ws.tail) : Nat), 0, 0, regOf ws.tail.tail⟩) ?_ ?_); (· rfl); (· rfl); (· rfl); (· kernel_rfl); (· exact Nat.le_of_ble_eq_true rfl); (· rfl); (· rfl)))
          go_meet
          case rel =>
            unfold CutC
            rw [Hsc.out]
            exact ⟨⟨_, hRn.row hb5 _⟩, setRow_heap _ _ _ _ _ _ hCn, (setRow_heap_ne _ _ _ _ (by omega)).trans ((hbn.block _ (heap_lt hZ) (by omega)).trans hZ), below_setRow (hB.trans (hbn.below (by omega) hB.size)) (by omega) _, env_row (hE.but hbn) (by omega) _⟩
        by_cases hk3 : k = 3
        · subst hk3
          simp only [show ¬ ((3 : Int) = 7) by decide, if_false] at hR hC
          have hsc := scan_k ws _ Hk.out
          simp only [Int.reduceEq, or_false, or_true, true_or, false_or, or_self, ↓reduceIte] at hsc
          have Hn := Lib.hid (number_any pb 235 ws.tail.tail _ _ hR hE hws.tail.tail.hd')
          have Hsc := Lib.hid hsc
          clear hsc
          go_wp2_with (go_at_call 219; (with_reducible refine (Hn.out).mono ?_); rintro e wn ⟨rfl, hRn, hbn⟩; have hCn := (hbn.block b5 (heap_lt hC) (by omega)).trans hC; have hfn := row_hot hCn; have hcn := row_cell hCn 2; simp only [Cmd.cells, Reg.cells, List.getElem?_cons_zero, List.getElem?_cons_succ] at hcn)
          go_meet
          case rel =>
            unfold CutC
            rw [Hsc.out]
            exact ⟨⟨_, hRn.aside (p := ⟨b5, 2, none⟩) hb5 _⟩, row_put hCn 2 _ rfl, (Below.heap_setCell _ _ _ _ (show w.heap.size ≠ b5 by omega)).trans ((hbn.block _ (heap_lt hZ) (by omega)).trans hZ), (hB.trans (hbn.below (by omega) hB.size)).setCell (p := ⟨b5, 2, none⟩) (show w.heap.size ≤ b5 by omega) _, (hE.but hbn).aside (p := ⟨b5, 2, none⟩) hb5 _⟩
        by_cases hk5 : k = 5
        · subst hk5
          simp only [show ¬ ((5 : Int) = 7) by decide, if_false] at hR hC
          have hsc := scan_k ws _ Hk.out
          simp only [Int.reduceEq, or_false, or_true, true_or, false_or, or_self, ↓reduceIte] at hsc
          have Hn := Lib.hid (number_any pb 235 ws.tail.tail _ _ hR hE hws.tail.tail.hd')
          have Hsc := Lib.hid hsc
          clear hsc
          go_wp2_with (go_at_call 219; (with_reducible refine (Hn.out).mono ?_); rintro e wn ⟨rfl, hRn, hbn⟩; have hCn := (hbn.block b5 (heap_lt hC) (by omega)).trans hC; have hfn := row_hot hCn; have hcn := row_cell hCn 2; simp only [Cmd.cells, Reg.cells, List.getElem?_cons_zero, List.getElem?_cons_succ] at hcn)
          go_meet
          case rel =>
            unfold CutC
            rw [Hsc.out]
            exact ⟨⟨_, hRn.aside (p := ⟨b5, 2, none⟩) hb5 _⟩, row_put hCn 2 _ rfl, (Below.heap_setCell _ _ _ _ (show w.heap.size ≠ b5 by omega)).trans ((hbn.block _ (heap_lt hZ) (by omega)).trans hZ), (hB.trans (hbn.below (by omega) hB.size)).setCell (p := ⟨b5, 2, none⟩) (show w.heap.size ≤ b5 by omega) _, (hE.but hbn).aside (p := ⟨b5, 2, none⟩) hb5 _⟩
        by_cases hk6 : k = 6
        · subst hk6
          simp only [show ¬ ((6 : Int) = 7) by decide, if_false] at hR hC
          have hsc := scan_k ws _ Hk.out
          simp only [Int.reduceEq, or_false, or_true, true_or, false_or, or_self, ↓reduceIte] at hsc
          have Hn := Lib.hid (line_any pb 235 ws.tail.tail _ _ hR hE hws.tail.tail.hd')
          have Hsc := Lib.hid hsc
          clear hsc
          go_wp2_with (go_at_call 221; (with_reducible refine (Hn.out).mono ?_); rintro e wn ⟨rfl, hRn, hbn⟩; have hCn := (hbn.block b5 (heap_lt hC) (by omega)).trans hC; have hfn := row_hot hCn; have hcn := row_cell hCn 3; simp only [Cmd.cells, Reg.cells, List.getElem?_cons_zero, List.getElem?_cons_succ] at hcn)
          go_meet
          case rel =>
            unfold CutC
            rw [Hsc.out]
            exact ⟨⟨_, hRn.aside (p := ⟨b5, 3, none⟩) hb5 _⟩, row_put hCn 3 _ rfl, (Below.heap_setCell _ _ _ _ (show w.heap.size ≠ b5 by omega)).trans ((hbn.block _ (heap_lt hZ) (by omega)).trans hZ), (hB.trans (hbn.below (by omega) hB.size)).setCell (p := ⟨b5, 3, none⟩) (show w.heap.size ≤ b5 by omega) _, (hE.but hbn).aside (p := ⟨b5, 3, none⟩) hb5 _⟩
        have b1 : (k == 1) = false := by simpa using hk1
        have b3 : (k == 3) = false := by simpa using hk3
        have b5' : (k == 5) = false := by simpa using hk5
        have b6 : (k == 6) = false := by simpa using hk6
        go_wp2_with fail
        go_meet
        case rel =>
          unfold CutC
          by_cases hk7 : k = 7
          · subst hk7
            simp only [↓reduceIte] at hR hC
            have hsc := scan_k ws _ Hk.out
            simp only [↓reduceIte] at hsc
            rw [hsc]
            exact ⟨⟨_, hR⟩, hC, hZ, hB, hE⟩
          · simp only [if_neg hk7] at hR hC
            have hsc := scan_k ws _ Hk.out
            rw [if_neg hk7, if_neg hk1, if_neg (by omega), if_neg hk6] at hsc
            rw [hsc]
            exact ⟨⟨_, hR⟩, hC, hZ, hB, hE⟩
      case rest =>
        obtain ⟨⟨ws', hR⟩, hC, hZ, hB, hE⟩ := hcut
        have hfit := scan_fit ws
        have hrd := Lib.hid (readCmd_eq s)
        rw [← Hws.out] at hrd
        clear hc0 hf0 Hk Hws hws hwl
        generalize scanCmd ws = p at hR hC hfit hrd
        obtain ⟨c, ok⟩ := p
        simp only at hR hC hfit hrd
        have hf2 := row_hot hZ
        have hG5 := hE.glob
        have hok := hR.ok
        cases hcr : cmdRight c with
        | false =>
          have Hc := Lib.hid hcr
          have hn0 : readCmd s = none := by rw [hrd.out]; simp [hcr]
          have Hn := Lib.hid hn0
          clear hn0 hrd hcr
          cases ok
          · go_wp2_with (first | ((with_reducible refine wpl_load 31 _ rfl ?_ b5 0 ?_ _ _ (CellsAt.of_block hC) Tryz.underlying31 rfl ?_ ?_); (· rfl); (· rfl); (· kernel_rfl)) | (go_at_call 61; (with_reducible refine (show_no c _ Hc.out).mono ?_); rintro e ws1 ⟨rfl, hbs⟩; have hZs := (hbs.block _ (heap_lt hZ)).trans hZ; have hCs := (hbs.block _ (heap_lt hC)).trans hC; have hRs := hR.below hbs; have hoks := hRs.ok) | ((guard_target =~ wpList _ _ _ (_ :: _) _ _); (refine wpl_store 31 _ _ rfl ?_ w.heap.size 0 31 _ (Cmd.cells .zero) hZs ?_ ?_ ?_ ?_ ?_ (Cmd.cells .zero) ?_ ?_); (· rfl); (· rfl); (· rfl); (· kernel_rfl); (· exact Nat.le_of_ble_eq_true rfl); (· rfl); (· rfl)))
            have hn := Hn.out
            refine bodyPost_ret (results_cell_row2 (p := 2) (u := 3) (ty := 31) rfl _ _ w.heap.size 31 (Cmd.zero.cells).toArray (0, 0) _ rfl (setRow_heap _ _ _ _ _ _ hZs) Tryz.underlying31 rfl (by kernel_rfl)) rfl ⟨?_, below_setRow (hB.trans (hbs.mono hB.size)) (Nat.le_refl _) _⟩
            rw [show readC s = .zero by simp [readC, hn], show readE s = 8 by simp [readE, hn]]
            rfl
          · go_wp2_with (first | ((with_reducible refine wpl_load 31 _ rfl ?_ b5 0 ?_ _ _ (CellsAt.of_block hC) Tryz.underlying31 rfl ?_ ?_); (· rfl); (· rfl); (· kernel_rfl)) | (go_at_call 61; (with_reducible refine (show_no c _ Hc.out).mono ?_); rintro e ws1 ⟨rfl, hbs⟩; have hZs := (hbs.block _ (heap_lt hZ)).trans hZ; have hCs := (hbs.block _ (heap_lt hC)).trans hC; have hRs := hR.below hbs; have hoks := hRs.ok) | ((guard_target =~ wpList _ _ _ (_ :: _) _ _); (refine wpl_store 31 _ _ rfl ?_ w.heap.size 0 31 _ (Cmd.cells .zero) hZs ?_ ?_ ?_ ?_ ?_ (Cmd.cells .zero) ?_ ?_); (· rfl); (· rfl); (· rfl); (· kernel_rfl); (· exact Nat.le_of_ble_eq_true rfl); (· rfl); (· rfl)))
            have hn := Hn.out
            refine bodyPost_ret (results_cell_row2 (p := 2) (u := 3) (ty := 31) rfl _ _ w.heap.size 31 (Cmd.zero.cells).toArray (0, 0) _ rfl (setRow_heap _ _ _ _ _ _ hZs) Tryz.underlying31 rfl (by kernel_rfl)) rfl ⟨?_, below_setRow (hB.trans (hbs.mono hB.size)) (Nat.le_refl _) _⟩
            rw [show readC s = .zero by simp [readC, hn], show readE s = 8 by simp [readE, hn]]
            rfl
        | true =>
          have Hc := Lib.hid hcr
          clear hcr
          cases ok
          · have hn0 : readCmd s = none := by rw [hrd.out]; simp
            have Hn := Lib.hid hn0
            clear hn0 hrd
            go_wp2_with (first | ((with_reducible refine wpl_load 31 _ rfl ?_ b5 0 ?_ _ _ (CellsAt.of_block hC) Tryz.underlying31 rfl ?_ ?_); (· rfl); (· rfl); (· kernel_rfl)) | (go_at_call 61; (with_reducible refine (show_yes c _ hG5 hfit Hc.out).mono ?_); rintro e ws1 ⟨rfl, hbs⟩; have hZs := (hbs.block _ (heap_lt hZ)).trans hZ; have hCs := (hbs.block _ (heap_lt hC)).trans hC; have hRs := hR.below hbs; have hoks := hRs.ok) | ((guard_target =~ wpList _ _ _ (_ :: _) _ _); (refine wpl_store 31 _ _ rfl ?_ w.heap.size 0 31 _ (Cmd.cells .zero) hZs ?_ ?_ ?_ ?_ ?_ (Cmd.cells .zero) ?_ ?_); (· rfl); (· rfl); (· rfl); (· kernel_rfl); (· exact Nat.le_of_ble_eq_true rfl); (· rfl); (· rfl)))
            have hn := Hn.out
            refine bodyPost_ret (results_cell_row2 (p := 2) (u := 3) (ty := 31) rfl _ _ w.heap.size 31 (Cmd.zero.cells).toArray (0, 0) _ rfl (setRow_heap _ _ _ _ _ _ hZs) Tryz.underlying31 rfl (by kernel_rfl)) rfl ⟨?_, below_setRow (hB.trans (hbs.mono hB.size)) (Nat.le_refl _) _⟩
            rw [show readC s = .zero by simp [readC, hn], show readE s = 8 by simp [readE, hn]]
            rfl
          · by_cases ht : (⟨(cmdText c).toArray⟩ : ByteArray) = s
            · have hn0 : readCmd s = some c := by rw [hrd.out]; simp [Hc.out, mk, ht]
              have Hn := Lib.hid hn0
              clear hn0 hrd
              subst ht
              go_wp2_with (first | ((with_reducible refine wpl_load 31 _ rfl ?_ b5 0 ?_ _ _ (CellsAt.of_block hC) Tryz.underlying31 rfl ?_ ?_); (· rfl); (· rfl); (· kernel_rfl)) | ((with_reducible refine wpl_load 31 _ rfl ?_ b5 0 ?_ _ _ (CellsAt.of_block hCs) Tryz.underlying31 rfl ?_ ?_); (· rfl); (· rfl); (· kernel_rfl)) | (go_at_call 61; (with_reducible refine (show_yes c _ hG5 hfit Hc.out).mono ?_); rintro e ws1 ⟨rfl, hbs⟩; have hZs := (hbs.block _ (heap_lt hZ)).trans hZ; have hCs := (hbs.block _ (heap_lt hC)).trans hC; have hRs := hR.below hbs; have hoks := hRs.ok) | ((guard_target =~ wpList _ _ _ (_ :: _) _ _); (refine wpl_store 31 _ _ rfl ?_ w.heap.size 0 31 _ c.cells hZs ?_ ?_ ?_ ?_ ?_ c.cells ?_ ?_); (· rfl); (· rfl); (· rfl); (· kernel_rfl); (· exact Nat.le_of_ble_eq_true rfl); (· rfl); (· rfl)))
              have hn := Hn.out
              refine bodyPost_ret (results_cell_row2 (p := 2) (u := 3) (ty := 31) rfl _ _ w.heap.size 31 (c.cells).toArray (0, 0) _ rfl (setRow_heap _ _ _ _ _ _ hZs) Tryz.underlying31 rfl (by kernel_rfl)) rfl ⟨?_, below_setRow (hB.trans (hbs.mono hB.size)) (Nat.le_refl _) _⟩
              rw [show readC ⟨(cmdText c).toArray⟩ = c by simp [readC, hn], show readE ⟨(cmdText c).toArray⟩ = 0 by simp [readE, hn]]
              rfl
            · have hn0 : readCmd s = none := by rw [hrd.out]; simp [mk, ht]
              have Hn := Lib.hid hn0
              clear hn0 hrd
              have ht1 : (cmdText c == s.toList) = false := str_ne2 ht
              go_wp2_with (first | ((with_reducible refine wpl_load 31 _ rfl ?_ b5 0 ?_ _ _ (CellsAt.of_block hC) Tryz.underlying31 rfl ?_ ?_); (· rfl); (· rfl); (· kernel_rfl)) | (go_at_call 61; (with_reducible refine (show_yes c _ hG5 hfit Hc.out).mono ?_); rintro e ws1 ⟨rfl, hbs⟩; have hZs := (hbs.block _ (heap_lt hZ)).trans hZ; have hCs := (hbs.block _ (heap_lt hC)).trans hC; have hRs := hR.below hbs; have hoks := hRs.ok) | ((guard_target =~ wpList _ _ _ (_ :: _) _ _); (refine wpl_store 31 _ _ rfl ?_ w.heap.size 0 31 _ (Cmd.cells .zero) hZs ?_ ?_ ?_ ?_ ?_ (Cmd.cells .zero) ?_ ?_); (· rfl); (· rfl); (· rfl); (· kernel_rfl); (· exact Nat.le_of_ble_eq_true rfl); (· rfl); (· rfl)))
              have hn := Hn.out
              refine bodyPost_ret (results_cell_row2 (p := 2) (u := 3) (ty := 31) rfl _ _ w.heap.size 31 (Cmd.zero.cells).toArray (0, 0) _ rfl (setRow_heap _ _ _ _ _ _ hZs) Tryz.underlying31 rfl (by kernel_rfl)) rfl ⟨?_, below_setRow (hB.trans (hbs.mono hB.size)) (Nat.le_refl _) _⟩
              rw [show readC s = .zero by simp [readC, hn], show readE s = 8 by simp [readE, hn]]
              rfl
end Go.Proofs.YtmjojlacpgdomaaGreatDoor
