import Derived.Test.YtmjojlacpgdomaaGreatDoorAline
/-! (conf.reader).region. -/
namespace Go.Proofs.YtmjojlacpgdomaaGreatDoor
set_option linter.unusedSimpArgs false
set_option linter.unusedVariables false
open Go Go.RowKit
attribute [local go_sem] setRow_new setRow_old
theorem But.fresh {b : Nat} {u w : World} (h : But b u w) {p : Addr} (hp : u.heap.size ≤ p.block) (x : Value) : But b u (w.setCell p x) :=
  ⟨h.os, h.tape, h.output, by simp [World.setCell]; exact h.size, fun k hk hb => (Below.heap_setCell _ _ _ _ (by omega)).trans (h.block k hk hb)⟩
theorem But.alloc {b : Nat} {u w : World} (h : But b u w) (o : Obj) : But b u (w.alloc o) := h.trans (But.of ((Below.refl _ _).alloc (Nat.le_refl _) o))
theorem setRow_heap_ne (w : World) (g k : Nat) (cs : Array Value) (h : k ≠ g) : (w.setRow g cs).heap[k]? = w.heap[k]? := by
  simp only [World.setRow, Array.getElem?_modify]
  rw [if_neg (by omega)]
theorem But.row {b : Nat} {u w : World} (h : But b u w) {g : Nat} (hp : u.heap.size ≤ g) (cs : Array Value) : But b u (w.setRow g cs) :=
  ⟨h.os, h.tape, h.output, by simp [World.setRow]; exact h.size, fun k hk hb => (setRow_heap_ne _ _ _ _ (by omega)).trans (h.block k hk hb)⟩
theorem Rd.row {pb T : Nat} {w : World} {ws : List ByteArray} {ok : Bool} (h : Rd pb T w ws ok) {g : Nat} (hp : pb < g) (cs : Array Value) : Rd pb T (w.setRow g cs) ws ok := by
  obtain ⟨v, hr, a, c, hv, hl, hc, hs⟩ := h
  have hk : ∀ k, k ≤ pb → (w.setRow g cs).heap[k]? = w.heap[k]? := fun k hk => setRow_heap_ne _ _ _ _ (by omega)
  refine ⟨v, (hk pb (Nat.le_refl _)).trans hr, a, c, hv, hl, hc, fun hne => ?_⟩
  obtain ⟨r, o, rfl, hrp, hx⟩ := hs hne
  exact ⟨r, o, rfl, hrp, fun j y hj => (World.cell?_of_block (hk r (by omega))).trans (hx j y hj)⟩
def Small (ws : List ByteArray) : Prop := ∀ x ∈ ws, x.size < 4294967281
theorem Small.tail {ws : List ByteArray} (h : Small ws) : Small ws.tail := fun x hx => h x (List.mem_of_mem_tail hx)
theorem Small.hd {ws : List ByteArray} (h : Small ws) : (hd ws).size < 4294967281 := by
  rcases ws with _ | ⟨x, ws⟩
  · show (0 : Nat) < _
    omega
  · exact h x (by simp)
theorem Small.hd' {ws : List ByteArray} (h : Small ws) : (YtmjojlacpgdomaaGreatDoor.hd ws).size ≤ 140737488351232 := by have := h.hd; omega
def has (c : UInt8) (s : ByteArray) : Bool := Lib.contains s.data.toList [c]
/-- The region that words say. -/
def regOf (ws : List ByteArray) : Reg := ⟨true, num16 (hd ws), adr32 (hd ws.tail), adr32 (hd ws.tail.tail), has 114 (hd ws.tail.tail.tail), has 119 (hd ws.tail.tail.tail), num16 (hd ws.tail.tail.tail.tail), !isNil ws.tail.tail.tail.tail.tail⟩
def regOk (ok : Bool) (ws : List ByteArray) : Bool :=
  ok && !isNil ws && puOk (dec16 (hd ws)) && !isNil ws.tail && puOk (hex32 (hd ws.tail)) && !isNil ws.tail.tail && puOk (hex32 (hd ws.tail.tail)) && !isNil ws.tail.tail.tail && !isNil ws.tail.tail.tail.tail && puOk (dec16 (hd ws.tail.tail.tail.tail))
set_option maxRecDepth 100000 in
set_option maxHeartbeats 1000000 in
theorem region_nil (pb T : Nat) (ws : List ByteArray) (ok : Bool) (w : World) (hR : Rd pb T w ws ok) (hE : Env pb w) (hz : Small ws) (hlast : Hid (ws.tail.tail.tail.tail.tail = [])) :
    Calls Tryz.prog 220 #[.pointer (some ⟨pb, 0, none⟩)] w fun e w' => e = .returned (.agg (regOf ws).cells.toArray) ∧ Rd pb T w' ws.tail.tail.tail.tail.tail.tail (regOk ok ws) ∧ But pb w w' := by
  have hlt := hR.lt
  unfold regOf regOk
  rw [hlast.out]
  have z0 := Lib.hid hz
  have z1 := Lib.hid z0.out.tail
  have z2 := Lib.hid z1.out.tail
  have z3 := Lib.hid z2.out.tail
  have z4 := Lib.hid z3.out.tail
  have hmf : ∀ (fn : Fn) (first cap : Array Value) (w : World), (Instr.makeFunc fn first cap).run Tryz.prog w = .ok (.func fn first cap) w := fun _ _ _ _ => rfl
  go_enter Tryz.func220, Tryz.ntmps220
  go_wp2_with (go_at_call 219; (with_reducible refine (number_any pb T ws ok _ (hR.alloc _) (hE.alloc _) z0.out.hd').mono ?_); rintro e w1 ⟨rfl, hR1, hb1⟩; have hE1 := (hE.alloc _).but hb1; have hB1 := ((But.refl pb w).alloc _).trans hb1; have ha1 := (hb1.block w.heap.size (by simp) (by omega)).trans (heap_alloc_new _ _); have hs1 := hb1.size; simp at hs1)
  go_wp2_with (go_at_call 264; (with_reducible refine (address_any pb T ws.tail _ _ (hR1.alloc _) (hE1.alloc _) z1.out.hd').mono ?_); rintro e w2 ⟨rfl, hR2, hb2⟩; have hE2 := (hE1.alloc _).but hb2; have hB2 := (hB1.alloc _).trans hb2; have ha2 := (hb2.block w.heap.size (by simp; omega) (by omega)).trans ((Below.heap_alloc _ _ _ (by omega)).trans ha1); have hc2 := (hb2.block w1.heap.size (by simp) (by omega)).trans (heap_alloc_new _ _); have hs2 := hb2.size; simp at hs2)
  go_wp2_with (go_at_call 264; (with_reducible refine (address_any pb T ws.tail.tail _ w2 hR2 hE2 z2.out.hd').mono ?_); rintro e w3 ⟨rfl, hR3, hb3⟩; have hs3 := hb3.size; have hE3 := hE2.but hb3; have hB3 := hB2.trans hb3; have ha3 := (hb3.block w.heap.size (by omega) (by omega)).trans ha2; have hc3 := (hb3.block w1.heap.size (by omega) (by omega)).trans hc2; have hf3 := row_hot hc3; have hq3 := row_cell hc3)
  have hw3 : pb < w1.heap.size := by omega
  go_wp2_with (go_at_call 218; (with_reducible refine (take_any pb T ws.tail.tail.tail _ _ ((hR3.aside (p := ⟨w1.heap.size, 2, none⟩) hw3 _).aside (p := ⟨w1.heap.size, 3, none⟩) hw3 _)).mono ?_); rintro e w4 ⟨rfl, hR4, hb4⟩; have hE4 := ((hE3.aside (p := ⟨w1.heap.size, 2, none⟩) hw3 _).aside (p := ⟨w1.heap.size, 3, none⟩) hw3 _).but hb4; have hB4 := ((hB3.fresh (p := ⟨w1.heap.size, 2, none⟩) (show w.heap.size ≤ w1.heap.size by omega) _).fresh (p := ⟨w1.heap.size, 3, none⟩) (show w.heap.size ≤ w1.heap.size by omega) _).trans hb4; have ha4 := (hb4.block w.heap.size (by simp [World.setCell]; omega) (by omega)).trans ((Below.heap_setCell _ _ _ _ (show w.heap.size ≠ w1.heap.size by omega)).trans ((Below.heap_setCell _ _ _ _ (show w.heap.size ≠ w1.heap.size by omega)).trans ha3)); have hc4 := (hb4.block w1.heap.size (by simp [World.setCell]; omega) (by omega)).trans (row_put (row_put hc3 2 _ rfl) 3 _ rfl); have hf4 := row_hot hc4; have hq4 := row_cell hc4; have hsh4 := hE4.glob.shp; clear hf3 hq3; have hs4 := hb4.size; simp [World.setCell] at hs4)
  go_wp2_with (go_at_call 265; (with_reducible refine (Tryz.strings_Contains_shaped (hd ws.tail.tail.tail) _ w4 hsh4 z3.out.hd).mono ?_); rintro e w' ⟨rfl, hw'⟩; have hw2' := hw'.symm; subst hw2')
  go_wp2_with (first | (go_at_call 219; (with_reducible refine (number_any pb T ws.tail.tail.tail.tail _ _ ((hR4.aside (p := ⟨w1.heap.size, 4, none⟩) hw3 _).aside (p := ⟨w1.heap.size, 5, none⟩) hw3 _) ((hE4.aside (p := ⟨w1.heap.size, 4, none⟩) hw3 _).aside (p := ⟨w1.heap.size, 5, none⟩) hw3 _) z4.out.hd').mono ?_); rintro e w5 ⟨rfl, hR5, hb5⟩; have hB5 := ((hB4.fresh (p := ⟨w1.heap.size, 4, none⟩) (show w.heap.size ≤ w1.heap.size by omega) _).fresh (p := ⟨w1.heap.size, 5, none⟩) (show w.heap.size ≤ w1.heap.size by omega) _).trans hb5; have ha5 := (hb5.block w.heap.size (by simp [World.setCell]; omega) (by omega)).trans ((Below.heap_setCell _ _ _ _ (show w.heap.size ≠ w1.heap.size by omega)).trans ((Below.heap_setCell _ _ _ _ (show w.heap.size ≠ w1.heap.size by omega)).trans ha4)); have hc5 := (hb5.block w1.heap.size (by simp [World.setCell]; omega) (by omega)).trans (row_put (row_put hc4 4 _ rfl) 5 _ rfl); have hf5 := row_hot hc5; have hq56 := row_cell hc5 6; have hq57 := row_cell hc5 7; simp only [List.set_cons_succ, List.set_cons_zero, List.getElem?_cons_succ, List.getElem?_cons_zero] at hq56 hq57; clear hf4 hq4; rw [hlast.out] at hR5; have hR5' := Lib.hid hR5; obtain ⟨v5, hr5, a5, c5, rfl, hl5, hcap5, hst5⟩ := hR5; have hp5 := row_cell hr5 0; simp only [List.getElem?_cons_zero, List.length_nil, List.length_cons] at hp5) | ((with_reducible refine wpl_load 29 _ rfl ?_ w1.heap.size 0 ?_ _ _ (CellsAt.sub (row_put (row_put hc5 6 _ rfl) 7 _ rfl) 0 8) Tryz.underlying29 rfl ?_ ?_); (· rfl); (· rfl); (· kernel_rfl)) | ((guard_target =~ wpList _ _ _ [_] _ _); (refine wpl_store 29 _ _ rfl ?_ w.heap.size 0 _ _ _ ((Below.heap_setCell _ _ _ _ (show w.heap.size ≠ w1.heap.size by omega)).trans ((Below.heap_setCell _ _ _ _ (show w.heap.size ≠ w1.heap.size by omega)).trans ha5)) ?_ rfl ?_ ?_ ?_ _ rfl ?_); (· rfl); (· rfl); (· kernel_rfl); (· simp); (· rfl); simp only [List.take, List.drop, List.nil_append, List.append_nil, List.cons_append]))
  exact bodyPost_ret (results_cell_row (p := 2) (ty := 29) rfl _ _ _ _ _ _ _ rfl (setRow_heap _ _ _ _ _ _ ((Below.heap_setCell _ _ _ _ (show w.heap.size ≠ w1.heap.size by omega)).trans ((Below.heap_setCell _ _ _ _ (show w.heap.size ≠ w1.heap.size by omega)).trans ha5))) Tryz.underlying29 rfl (by kernel_rfl)) rfl ⟨rfl, ((hR5'.out.aside (p := ⟨w1.heap.size, 6, none⟩) hw3 _).aside (p := ⟨w1.heap.size, 7, none⟩) hw3 _).row (by omega) _, ((hB5.fresh (p := ⟨w1.heap.size, 6, none⟩) (show w.heap.size ≤ w1.heap.size by omega) _).fresh (p := ⟨w1.heap.size, 7, none⟩) (show w.heap.size ≤ w1.heap.size by omega) _).row (Nat.le_refl _) _⟩
set_option maxRecDepth 100000 in
set_option maxHeartbeats 1000000 in
theorem region_cons (pb T : Nat) (ws : List ByteArray) (ok : Bool) (w : World) (hR : Rd pb T w ws ok) (hE : Env pb w) (hz : Small ws) (x : ByteArray) (r : List ByteArray) (hlast : Hid (ws.tail.tail.tail.tail.tail = x :: r)) :
    Calls Tryz.prog 220 #[.pointer (some ⟨pb, 0, none⟩)] w fun e w' => e = .returned (.agg (regOf ws).cells.toArray) ∧ Rd pb T w' ws.tail.tail.tail.tail.tail.tail (regOk ok ws) ∧ But pb w w' := by
  have hlt := hR.lt
  unfold regOf regOk
  rw [hlast.out]
  have z0 := Lib.hid hz
  have z1 := Lib.hid z0.out.tail
  have z2 := Lib.hid z1.out.tail
  have z3 := Lib.hid z2.out.tail
  have z4 := Lib.hid z3.out.tail
  have hmf : ∀ (fn : Fn) (first cap : Array Value) (w : World), (Instr.makeFunc fn first cap).run Tryz.prog w = .ok (.func fn first cap) w := fun _ _ _ _ => rfl
  go_enter Tryz.func220, Tryz.ntmps220
  go_wp2_with (go_at_call 219; (with_reducible refine (number_any pb T ws ok _ (hR.alloc _) (hE.alloc _) z0.out.hd').mono ?_); rintro e w1 ⟨rfl, hR1, hb1⟩; have hE1 := (hE.alloc _).but hb1; have hB1 := ((But.refl pb w).alloc _).trans hb1; have ha1 := (hb1.block w.heap.size (by simp) (by omega)).trans (heap_alloc_new _ _); have hs1 := hb1.size; simp at hs1)
  go_wp2_with (go_at_call 264; (with_reducible refine (address_any pb T ws.tail _ _ (hR1.alloc _) (hE1.alloc _) z1.out.hd').mono ?_); rintro e w2 ⟨rfl, hR2, hb2⟩; have hE2 := (hE1.alloc _).but hb2; have hB2 := (hB1.alloc _).trans hb2; have ha2 := (hb2.block w.heap.size (by simp; omega) (by omega)).trans ((Below.heap_alloc _ _ _ (by omega)).trans ha1); have hc2 := (hb2.block w1.heap.size (by simp) (by omega)).trans (heap_alloc_new _ _); have hs2 := hb2.size; simp at hs2)
  go_wp2_with (go_at_call 264; (with_reducible refine (address_any pb T ws.tail.tail _ w2 hR2 hE2 z2.out.hd').mono ?_); rintro e w3 ⟨rfl, hR3, hb3⟩; have hs3 := hb3.size; have hE3 := hE2.but hb3; have hB3 := hB2.trans hb3; have ha3 := (hb3.block w.heap.size (by omega) (by omega)).trans ha2; have hc3 := (hb3.block w1.heap.size (by omega) (by omega)).trans hc2; have hf3 := row_hot hc3; have hq3 := row_cell hc3)
  have hw3 : pb < w1.heap.size := by omega
  go_wp2_with (go_at_call 218; (with_reducible refine (take_any pb T ws.tail.tail.tail _ _ ((hR3.aside (p := ⟨w1.heap.size, 2, none⟩) hw3 _).aside (p := ⟨w1.heap.size, 3, none⟩) hw3 _)).mono ?_); rintro e w4 ⟨rfl, hR4, hb4⟩; have hE4 := ((hE3.aside (p := ⟨w1.heap.size, 2, none⟩) hw3 _).aside (p := ⟨w1.heap.size, 3, none⟩) hw3 _).but hb4; have hB4 := ((hB3.fresh (p := ⟨w1.heap.size, 2, none⟩) (show w.heap.size ≤ w1.heap.size by omega) _).fresh (p := ⟨w1.heap.size, 3, none⟩) (show w.heap.size ≤ w1.heap.size by omega) _).trans hb4; have ha4 := (hb4.block w.heap.size (by simp [World.setCell]; omega) (by omega)).trans ((Below.heap_setCell _ _ _ _ (show w.heap.size ≠ w1.heap.size by omega)).trans ((Below.heap_setCell _ _ _ _ (show w.heap.size ≠ w1.heap.size by omega)).trans ha3)); have hc4 := (hb4.block w1.heap.size (by simp [World.setCell]; omega) (by omega)).trans (row_put (row_put hc3 2 _ rfl) 3 _ rfl); have hf4 := row_hot hc4; have hq4 := row_cell hc4; have hsh4 := hE4.glob.shp; clear hf3 hq3; have hs4 := hb4.size; simp [World.setCell] at hs4)
  go_wp2_with (go_at_call 265; (with_reducible refine (Tryz.strings_Contains_shaped (hd ws.tail.tail.tail) _ w4 hsh4 z3.out.hd).mono ?_); rintro e w' ⟨rfl, hw'⟩; have hw2' := hw'.symm; subst hw2')
  go_wp2_with (first | (go_at_call 219; (with_reducible refine (number_any pb T ws.tail.tail.tail.tail _ _ ((hR4.aside (p := ⟨w1.heap.size, 4, none⟩) hw3 _).aside (p := ⟨w1.heap.size, 5, none⟩) hw3 _) ((hE4.aside (p := ⟨w1.heap.size, 4, none⟩) hw3 _).aside (p := ⟨w1.heap.size, 5, none⟩) hw3 _) z4.out.hd').mono ?_); rintro e w5 ⟨rfl, hR5, hb5⟩; have hB5 := ((hB4.fresh (p := ⟨w1.heap.size, 4, none⟩) (show w.heap.size ≤ w1.heap.size by omega) _).fresh (p := ⟨w1.heap.size, 5, none⟩) (show w.heap.size ≤ w1.heap.size by omega) _).trans hb5; have ha5 := (hb5.block w.heap.size (by simp [World.setCell]; omega) (by omega)).trans ((Below.heap_setCell _ _ _ _ (show w.heap.size ≠ w1.heap.size by omega)).trans ((Below.heap_setCell _ _ _ _ (show w.heap.size ≠ w1.heap.size by omega)).trans ha4)); have hc5 := (hb5.block w1.heap.size (by simp [World.setCell]; omega) (by omega)).trans (row_put (row_put hc4 4 _ rfl) 5 _ rfl); have hf5 := row_hot hc5; have hq56 := row_cell hc5 6; have hq57 := row_cell hc5 7; simp only [List.set_cons_succ, List.set_cons_zero, List.getElem?_cons_succ, List.getElem?_cons_zero] at hq56 hq57; clear hf4 hq4; rw [hlast.out] at hR5; have hR5' := Lib.hid hR5; obtain ⟨v5, hr5, a5, c5, rfl, hl5, hcap5, hst5⟩ := hR5; have hp5 := row_cell hr5 0; simp only [List.getElem?_cons_zero, List.length_nil, List.length_cons] at hp5) | (go_at_call 218; (with_reducible refine (take_any pb T (x :: r) _ _ ((hR5'.out.aside (p := ⟨w1.heap.size, 6, none⟩) hw3 _).aside (p := ⟨w1.heap.size, 7, none⟩) hw3 _)).mono ?_); rintro e w6 ⟨rfl, hR6, hb6⟩; have hs5 := hb5.size; simp [World.setCell] at hs5; have hB6 := ((hB5.fresh (p := ⟨w1.heap.size, 6, none⟩) (show w.heap.size ≤ w1.heap.size by omega) _).fresh (p := ⟨w1.heap.size, 7, none⟩) (show w.heap.size ≤ w1.heap.size by omega) _).trans hb6; have ha6 := (hb6.block w.heap.size (by simp [World.setCell]; omega) (by omega)).trans ((Below.heap_setCell _ _ _ _ (show w.heap.size ≠ w1.heap.size by omega)).trans ((Below.heap_setCell _ _ _ _ (show w.heap.size ≠ w1.heap.size by omega)).trans ha5)); have hc6 := (hb6.block w1.heap.size (by simp [World.setCell]; omega) (by omega)).trans (row_put (row_put hc5 6 _ rfl) 7 _ rfl)) | ((with_reducible refine wpl_load 29 _ rfl ?_ w1.heap.size 0 ?_ _ _ (CellsAt.sub hc6 0 8) Tryz.underlying29 rfl ?_ ?_); (· rfl); (· rfl); (· kernel_rfl)) | ((guard_target =~ wpList _ _ _ [_] _ _); (refine wpl_store 29 _ _ rfl ?_ w.heap.size 0 _ _ _ ha6 ?_ rfl ?_ ?_ ?_ _ rfl ?_); (· rfl); (· rfl); (· kernel_rfl); (· simp); (· rfl); simp only [List.take, List.drop, List.nil_append, List.append_nil, List.cons_append]))
  exact bodyPost_ret (results_cell_row (p := 2) (ty := 29) rfl _ _ _ _ _ _ _ rfl (setRow_heap _ _ _ _ _ _ ha6) Tryz.underlying29 rfl (by kernel_rfl)) rfl ⟨rfl, by simpa [isNil] using hR6.row (by omega) _, hB6.row (Nat.le_refl _) _⟩
theorem region_any (pb T : Nat) (ws : List ByteArray) (ok : Bool) (w : World) (hR : Rd pb T w ws ok) (hE : Env pb w) (hz : Small ws) :
    Calls Tryz.prog 220 #[.pointer (some ⟨pb, 0, none⟩)] w fun e w' => e = .returned (.agg (regOf ws).cells.toArray) ∧ Rd pb T w' ws.tail.tail.tail.tail.tail.tail (regOk ok ws) ∧ But pb w w' := by
  cases h : ws.tail.tail.tail.tail.tail with
  | nil => have := region_nil pb T ws ok w hR hE hz (Lib.hid h); rwa [h] at this
  | cons x r => have := region_cons pb T ws ok w hR hE hz x r (Lib.hid h); rwa [h] at this
end Go.Proofs.YtmjojlacpgdomaaGreatDoor
