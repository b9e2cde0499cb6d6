import Derived.Test.YtmjojlacpgdomaaGreatDoorBline
import Derived.RegionTactic
/-! (prog.words).next, (prog.scanner).number. -/
namespace Go.Proofs.YtmjojlacpgdomaaGreatDoor
set_option linter.unusedSimpArgs false
set_option linter.unusedVariables false
open Go Go.RowKit
/-- A scanner's state: its words, its instruction. -/
def Sc (pb : Nat) (w : World) (ws : List ByteArray) (x : Ins) : Prop := ∃ v, w.heap[pb]? = some (.cells (v :: x.cells).toArray 102 (0, 0)) ∧ Strs pb w v ws
theorem Sc.lt {pb : Nat} {w : World} {ws : List ByteArray} {x : Ins} (h : Sc pb w ws x) : pb < w.heap.size := let ⟨_, h, _⟩ := h; heap_lt h
theorem Sc.below {pb : Nat} {w w' : World} {ws : List ByteArray} {x : Ins} (h : Sc pb w ws x) (hb : Below w.heap.size w w') : Sc pb w' ws x :=
  let ⟨v, hr, hs⟩ := h; ⟨v, (hb.block pb (heap_lt hr)).trans hr, hs.but (heap_lt hr) (But.of hb)⟩
theorem Sc.drew {pb : Nat} {w : World} {ws : List ByteArray} {x : Ins} (h : Sc pb w ws x) : Sc pb w.drew ws x := h
theorem Sc.set {pb : Nat} {w : World} {ws : List ByteArray} {x y : Ins} (h : Sc pb w ws x) (i : Nat) (u : Value) (e : x.cells.set i u = y.cells) : Sc pb (w.setCell ⟨pb, i + 1, none⟩ u) ws y :=
  let ⟨v, hr, hs⟩ := h; ⟨v, row_put hr (i + 1) _ (by rw [List.set_cons_succ, e]), hs.but (heap_lt hr) ((But.refl pb w).setCell (p := ⟨pb, i + 1, none⟩) rfl _)⟩
theorem Sc.cell {pb : Nat} {w : World} {ws : List ByteArray} {x : Ins} (h : Sc pb w ws x) (i : Nat) : w.cell? ⟨pb, i + 1, none⟩ = x.cells[i]? := let ⟨_, hr, _⟩ := h; (row_cell hr (i + 1)).trans (by simp)
theorem Sc.hot {pb : Nat} {w : World} {ws : List ByteArray} {x : Ins} (h : Sc pb w ws x) (i : Nat) : w.frozen? ⟨pb, i, none⟩ = false := let ⟨_, hr, _⟩ := h; row_hot hr i
def Ins.kill (x : Ins) (ok : Bool) : Ins := ⟨opIf ok x.op, x.size, x.addr, x.idx, x.data, x.to, x.conf⟩
set_option maxRecDepth 100000 in
set_option maxHeartbeats 1000000 in
theorem next_nil (pb c : Nat) (a : Option Addr) (w : World) (h0 : w.cell? ⟨pb, 0, none⟩ = some (.slice a 0 c)) :
    Calls Tryz.prog 135 #[.pointer (some ⟨pb, 0, none⟩)] w fun e w' => e = .returned (.string ⟨#[]⟩) ∧ w' = w := by
  go_enter Tryz.func135, Tryz.ntmps135
  go_wp2
  go_ret
  exact ⟨rfl, rfl⟩
set_option maxRecDepth 100000 in
set_option maxHeartbeats 1000000 in
theorem next_cons (pb r o n c : Nat) (x : ByteArray) (w : World) (h0 : w.cell? ⟨pb, 0, none⟩ = some (.slice (some ⟨r, o, none⟩) (n + 1) c)) (hf : w.frozen? ⟨pb, 0, none⟩ = false)
    (hx : w.cell? ⟨r, o, none⟩ = some (.string x)) (hc : n + 1 ≤ c) (hl : c ≤ 4294967296) :
    Calls Tryz.prog 135 #[.pointer (some ⟨pb, 0, none⟩)] w fun e w' => e = .returned (.string x) ∧ ∃ a, (n ≠ 0 → a = some ⟨r, o + 1, none⟩) ∧ w' = (w.setCell ⟨pb, 0, none⟩ (.slice a n (c - 1))).drew := by
  by_cases h1 : c = 1
  · subst h1
    obtain rfl : n = 0 := by omega
    go_enter Tryz.func135, Tryz.ntmps135
    go_wp2
    go_region
    all_goals (go_wp2; go_ret)
    all_goals exact ⟨rfl, _, fun h => (h rfl).elim, rfl⟩
  · go_enter Tryz.func135, Tryz.ntmps135
    go_wp2
    go_region
    all_goals (go_wp2; go_ret)
    all_goals exact ⟨rfl, _, fun _ => rfl, rfl⟩
theorem next_any (pb : Nat) (ws : List ByteArray) (x : Ins) (w : World) (hR : Sc pb w ws x) :
    Calls Tryz.prog 135 #[.pointer (some ⟨pb, 0, none⟩)] w fun e w' => e = .returned (.string (hd ws)) ∧ Sc pb w' ws.tail x ∧ But pb w w' := by
  have hR' := hR
  obtain ⟨v, hr, a, c, rfl, hl, hc, hs⟩ := hR
  have h0 := row_cell hr 0
  rcases ws with _ | ⟨y, ws⟩
  · refine (next_nil pb c a w h0).mono ?_
    rintro e w' ⟨rfl, rfl⟩
    exact ⟨rfl, hR', But.refl pb _⟩
  · obtain ⟨r, o, rfl, hrp, hx⟩ := hs (by simp)
    have hy := hx 0 y rfl
    refine (next_cons pb r o ws.length c y w h0 (row_hot hr 0) (by simpa using hy) (by simpa using hl) hc).mono ?_
    rintro e w' ⟨rfl, a, ha, rfl⟩
    have hbut : But pb w (w.setCell ⟨pb, 0, none⟩ (.slice a ws.length (c - 1))) := (But.refl pb w).setCell (p := ⟨pb, 0, none⟩) rfl _
    refine ⟨rfl, ⟨.slice a ws.length (c - 1), row_put hr 0 _ (by simp), a, c - 1, rfl, by simp at hl; simp; omega, by omega, fun hne => ?_⟩, hbut.drew⟩
    have hne' : ws ≠ [] := hne
    refine ⟨r, o + 1, ha (by simpa using hne'), hrp, fun j z hj => ?_⟩
    have hp := heap_lt hr
    have := hx (j + 1) z (by simpa using hj)
    rw [show o + (j + 1) = o + 1 + j by omega] at this
    exact (hbut.cell (p := ⟨r, o + 1 + j, none⟩) (show r ≠ pb by omega) (show r < _ by omega)).trans this
theorem dec32_le (s : ByteArray) : num32 s ≤ 4294967295 := parse10_le 32 _
set_option maxRecDepth 100000 in
set_option maxHeartbeats 1000000 in
theorem scan10_true (pb : Nat) (ws : List ByteArray) (x : Ins) (w : World) (hR : Sc pb w ws x) (hE : Env pb w) (hz : (hd ws).size ≤ 140737488351232) (ho : puOk (dec32 (hd ws)) = true) :
    Calls Tryz.prog 136 #[.pointer (some ⟨pb, 0, none⟩), .int .i64 10] w fun e w' => e = .returned (.int .u32 (num32 (hd ws))) ∧ Sc pb w' ws.tail (x.kill true) ∧ But pb w w' := by
  have hle := dec32_le (hd ws)
  unfold num32 at hle ⊢
  have hpu := fun w1 hg => pu_ok (pu10_32 (hd ws) hz w1 hg) ho
  clear ho
  unfold dec32 at hle ⊢
  generalize Lib.parseUintB 32 (hd ws).data.toList = o at hpu hle ⊢
  generalize puV 4294967295 o = n at hpu hle ⊢
  go_enter Tryz.func136, Tryz.ntmps136
  go_wp2_with (first | (go_at_call 135; (with_reducible refine (next_any pb ws x w hR).mono ?_); rintro e w1 ⟨rfl, hR1, hb1⟩; have hE1 := hE.but hb1) | (go_at_call 217; (with_reducible refine (hpu _ hE1.glob).mono ?_); rintro e w2 ⟨rfl, hb2⟩; have hR2 := hR1.below hb2; have hc2 := hR2.cell 0; have hf2 := hR2.hot; simp only [Ins.cells, List.getElem?_cons_zero] at hc2))
  go_ret
  exact ⟨rfl, hR2, hb1.trans (But.of hb2)⟩
set_option maxRecDepth 100000 in
set_option maxHeartbeats 1000000 in
theorem scan10_false (pb : Nat) (ws : List ByteArray) (x : Ins) (w : World) (hR : Sc pb w ws x) (hE : Env pb w) (hz : (hd ws).size ≤ 140737488351232) (ho : puOk (dec32 (hd ws)) = false) :
    Calls Tryz.prog 136 #[.pointer (some ⟨pb, 0, none⟩), .int .i64 10] w fun e w' => e = .returned (.int .u32 (num32 (hd ws))) ∧ Sc pb w' ws.tail (x.kill false) ∧ But pb w w' := by
  have hle := dec32_le (hd ws)
  unfold num32 at hle ⊢
  have hpu := fun w1 hg => pu_bad (pu10_32 (hd ws) hz w1 hg) ho
  clear ho
  unfold dec32 at hle ⊢
  generalize Lib.parseUintB 32 (hd ws).data.toList = o at hpu hle ⊢
  generalize puV 4294967295 o = n at hpu hle ⊢
  go_enter Tryz.func136, Tryz.ntmps136
  go_wp2_with (first | (go_at_call 135; (with_reducible refine (next_any pb ws x w hR).mono ?_); rintro e w1 ⟨rfl, hR1, hb1⟩; have hE1 := hE.but hb1) | (go_at_call 217; (with_reducible refine (hpu _ hE1.glob).mono ?_); rintro e w2 ⟨⟨N, rfl⟩, hb2⟩; have hR2 := hR1.below hb2; have hc2 := hR2.cell 0; have hf2 := hR2.hot; simp only [Ins.cells, List.getElem?_cons_zero] at hc2))
  go_ret
  exact ⟨rfl, hR2.set 0 _ rfl, (hb1.trans (But.of hb2)).setCell rfl _⟩
theorem scan10_any (pb : Nat) (ws : List ByteArray) (x : Ins) (w : World) (hR : Sc pb w ws x) (hE : Env pb w) (hz : (hd ws).size ≤ 140737488351232) :
    Calls Tryz.prog 136 #[.pointer (some ⟨pb, 0, none⟩), .int .i64 10] w fun e w' => e = .returned (.int .u32 (num32 (hd ws))) ∧ Sc pb w' ws.tail (x.kill (puOk (dec32 (hd ws)))) ∧ But pb w w' := by
  cases ho : puOk (dec32 (hd ws)) with
  | true => exact scan10_true pb ws x w hR hE hz ho
  | false => exact scan10_false pb ws x w hR hE hz ho
set_option maxRecDepth 100000 in
set_option maxHeartbeats 1000000 in
theorem scan16_true (pb : Nat) (ws : List ByteArray) (x : Ins) (w : World) (hR : Sc pb w ws x) (hE : Env pb w) (hz : (hd ws).size ≤ 140737488351232) (ho : puOk (hex32 (hd ws)) = true) :
    Calls Tryz.prog 136 #[.pointer (some ⟨pb, 0, none⟩), .int .i64 16] w fun e w' => e = .returned (.int .u32 (adr32 (hd ws))) ∧ Sc pb w' ws.tail (x.kill true) ∧ But pb w w' := by
  have hle := adr32_le (hd ws)
  unfold adr32 at hle ⊢
  have hpu := fun w1 hg => pu_ok (pu16_32 (hd ws) hz w1 hg) ho
  clear ho
  unfold hex32 at hle ⊢
  generalize hexNum 4294967295 (hd ws).data.toList = o at hpu hle ⊢
  generalize puV 4294967295 o = n at hpu hle ⊢
  go_enter Tryz.func136, Tryz.ntmps136
  go_wp2_with (first | (go_at_call 135; (with_reducible refine (next_any pb ws x w hR).mono ?_); rintro e w1 ⟨rfl, hR1, hb1⟩; have hE1 := hE.but hb1) | (go_at_call 217; (with_reducible refine (hpu _ hE1.glob).mono ?_); rintro e w2 ⟨rfl, hb2⟩; have hR2 := hR1.below hb2; have hc2 := hR2.cell 0; have hf2 := hR2.hot; simp only [Ins.cells, List.getElem?_cons_zero] at hc2))
  go_ret
  exact ⟨rfl, hR2, hb1.trans (But.of hb2)⟩
set_option maxRecDepth 100000 in
set_option maxHeartbeats 1000000 in
theorem scan16_false (pb : Nat) (ws : List ByteArray) (x : Ins) (w : World) (hR : Sc pb w ws x) (hE : Env pb w) (hz : (hd ws).size ≤ 140737488351232) (ho : puOk (hex32 (hd ws)) = false) :
    Calls Tryz.prog 136 #[.pointer (some ⟨pb, 0, none⟩), .int .i64 16] w fun e w' => e = .returned (.int .u32 (adr32 (hd ws))) ∧ Sc pb w' ws.tail (x.kill false) ∧ But pb w w' := by
  have hle := adr32_le (hd ws)
  unfold adr32 at hle ⊢
  have hpu := fun w1 hg => pu_bad (pu16_32 (hd ws) hz w1 hg) ho
  clear ho
  unfold hex32 at hle ⊢
  generalize hexNum 4294967295 (hd ws).data.toList = o at hpu hle ⊢
  generalize puV 4294967295 o = n at hpu hle ⊢
  go_enter Tryz.func136, Tryz.ntmps136
  go_wp2_with (first | (go_at_call 135; (with_reducible refine (next_any pb ws x w hR).mono ?_); rintro e w1 ⟨rfl, hR1, hb1⟩; have hE1 := hE.but hb1) | (go_at_call 217; (with_reducible refine (hpu _ hE1.glob).mono ?_); rintro e w2 ⟨⟨N, rfl⟩, hb2⟩; have hR2 := hR1.below hb2; have hc2 := hR2.cell 0; have hf2 := hR2.hot; simp only [Ins.cells, List.getElem?_cons_zero] at hc2))
  go_ret
  exact ⟨rfl, hR2.set 0 _ rfl, (hb1.trans (But.of hb2)).setCell rfl _⟩
theorem scan16_any (pb : Nat) (ws : List ByteArray) (x : Ins) (w : World) (hR : Sc pb w ws x) (hE : Env pb w) (hz : (hd ws).size ≤ 140737488351232) :
    Calls Tryz.prog 136 #[.pointer (some ⟨pb, 0, none⟩), .int .i64 16] w fun e w' => e = .returned (.int .u32 (adr32 (hd ws))) ∧ Sc pb w' ws.tail (x.kill (puOk (hex32 (hd ws)))) ∧ But pb w w' := by
  cases ho : puOk (hex32 (hd ws)) with
  | true => exact scan16_true pb ws x w hR hE hz ho
  | false => exact scan16_false pb ws x w hR hE hz ho
end Go.Proofs.YtmjojlacpgdomaaGreatDoor
