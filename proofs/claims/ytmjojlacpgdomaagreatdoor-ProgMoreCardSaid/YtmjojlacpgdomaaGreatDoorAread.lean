import Derived.Test.YtmjojlacpgdomaaGreatDoorAwords
/-! (conf.reader).number, address, line, region. -/
namespace Go.Proofs.YtmjojlacpgdomaaGreatDoor
set_option linter.unusedSimpArgs false
set_option linter.unusedVariables false
open Go Go.RowKit
/-- A reader's state: its words, and whether all went well. -/
def Rd (pb T : Nat) (w : World) (ws : List ByteArray) (ok : Bool) : Prop := ∃ v, w.heap[pb]? = some (.cells [v, .bool ok].toArray T (0, 0)) ∧ Strs pb w v ws
theorem Rd.lt {pb T : Nat} {w : World} {ws : List ByteArray} {ok : Bool} (h : Rd pb T w ws ok) : pb < w.heap.size := let ⟨_, h, _⟩ := h; heap_lt h
theorem Rd.below {pb T : Nat} {w w' : World} {ws : List ByteArray} {ok : Bool} (h : Rd pb T w ws ok) (hb : Below w.heap.size w w') : Rd pb T w' ws ok :=
  let ⟨v, hr, hs⟩ := h; ⟨v, (hb.block pb (heap_lt hr)).trans hr, hs.but (heap_lt hr) (But.of hb)⟩
theorem Rd.put {pb T : Nat} {w : World} {ws : List ByteArray} {ok : Bool} (h : Rd pb T w ws ok) (x : Bool) : Rd pb T (w.setCell ⟨pb, 1, none⟩ (.bool x)) ws x :=
  let ⟨v, hr, hs⟩ := h; ⟨v, row_put hr 1 _ rfl, hs.but (heap_lt hr) ((But.refl pb w).setCell (p := ⟨pb, 1, none⟩) rfl _)⟩
theorem Rd.ok {pb T : Nat} {w : World} {ws : List ByteArray} {ok : Bool} (h : Rd pb T w ws ok) : w.cell? ⟨pb, 1, none⟩ = some (.bool ok) := let ⟨_, hr, _⟩ := h; (row_cell hr 1).trans rfl
theorem Rd.hot {pb T : Nat} {w : World} {ws : List ByteArray} {ok : Bool} (h : Rd pb T w ws ok) (i : Nat) : w.frozen? ⟨pb, i, none⟩ = false := let ⟨_, hr, _⟩ := h; row_hot hr i
def isNil (l : List ByteArray) : Bool := match l with | [] => true | _ => false
theorem take_any (pb T : Nat) (ws : List ByteArray) (ok : Bool) (w : World) (hR : Rd pb T w ws ok) :
    Calls Tryz.prog 218 #[.pointer (some ⟨pb, 0, none⟩)] w fun e w' => e = .returned (.string (hd ws)) ∧ Rd pb T w' ws.tail (ok && !isNil ws) ∧ But pb w w' := by
  obtain ⟨v, hr, a, c, rfl, hl, hc, hs⟩ := hR
  rcases ws with _ | ⟨x, ws⟩
  · refine (take_nil pb T c a ok w hr).mono ?_
    rintro e w' ⟨rfl, rfl⟩
    have hn : (ok && !isNil []) = false := by simp [isNil]
    rw [hn]
    exact ⟨rfl, ⟨_, row_put hr 1 _ rfl, a, c, rfl, hl, hc, fun h => (h rfl).elim⟩, (But.refl pb w).setCell (p := ⟨pb, 1, none⟩) rfl _⟩
  · obtain ⟨r, o, rfl, hrp, hx⟩ := hs (by simp)
    have h0 := hx 0 x rfl
    refine (take_cons pb T r o ws.length c x ok w (by simpa using hr) (by simpa using h0) (by simpa using hl) hc).mono ?_
    rintro e w' ⟨rfl, a, ha, rfl⟩
    have hbut : But pb w (w.setCell ⟨pb, 0, none⟩ (.slice a ws.length (c - 1))) := (But.refl pb w).setCell (p := ⟨pb, 0, none⟩) rfl _
    refine ⟨rfl, ⟨.slice a ws.length (c - 1), row_put hr 0 _ (by simp [isNil]), a, c - 1, rfl, by simp at hl; simp; omega, by omega, fun hne => ?_⟩, hbut⟩
    have hne' : ws ≠ [] := hne
    refine ⟨r, o + 1, ha (by simpa using hne'), hrp, fun j y hj => ?_⟩
    have hp := heap_lt hr
    have := hx (j + 1) y (by simpa using hj)
    rw [show o + (j + 1) = o + 1 + j by omega] at this
    exact (hbut.cell (p := ⟨r, o + 1 + j, none⟩) (show r ≠ pb by omega) (show r < _ by omega)).trans this
theorem pu_ok {F : Nat} {args : Array Value} {M : Nat} {o : Lib.NumEnd Nat} {w : World}
    (h : Calls Tryz.prog F args w fun e w' => (∃ er, e = .returned (.tuple #[.int .u64 (puV M o), er]) ∧ puErr o er) ∧ Below w.heap.size w w') (ho : puOk o = true) :
    Calls Tryz.prog F args w fun e w' => e = .returned (.tuple #[.int .u64 (puV M o), .nilIface]) ∧ Below w.heap.size w w' :=
  h.mono fun e w' hh => by
    obtain ⟨⟨er, he, hr⟩, hb⟩ := hh
    rcases hr with ⟨_, rfl⟩ | ⟨h, _⟩
    · exact ⟨he, hb⟩
    · rw [ho] at h; cases h
theorem pu_bad {F : Nat} {args : Array Value} {M : Nat} {o : Lib.NumEnd Nat} {w : World}
    (h : Calls Tryz.prog F args w fun e w' => (∃ er, e = .returned (.tuple #[.int .u64 (puV M o), er]) ∧ puErr o er) ∧ Below w.heap.size w w') (ho : puOk o = false) :
    Calls Tryz.prog F args w fun e w' => (∃ N, e = .returned (.tuple #[.int .u64 (puV M o), .iface 311 (.pointer (some ⟨N, 0, none⟩))])) ∧ Below w.heap.size w w' :=
  h.mono fun e w' hh => by
    obtain ⟨⟨er, he, hr⟩, hb⟩ := hh
    rcases hr with ⟨h, _⟩ | ⟨_, N, rfl⟩
    · rw [ho] at h; cases h
    · exact ⟨⟨N, he⟩, hb⟩
theorem parseM_le (M : Nat) : ∀ (l : List UInt8) (acc : Nat), acc ≤ M → puV M (Lib.parseUintM M acc l) ≤ M
  | [], _, h => h
  | c :: r, acc, h => by
    unfold Lib.parseUintM
    split
    · split
      · exact Nat.le_refl M
      · split
        · exact Nat.le_refl M
        · exact parseM_le M r _ (by omega)
    · exact Nat.zero_le M
theorem parse10_le (B : Nat) (l : List UInt8) : puV (2 ^ B - 1) (Lib.parseUintB B l) ≤ 2 ^ B - 1 := by
  unfold Lib.parseUintB
  split
  · exact Nat.zero_le _
  · exact parseM_le _ _ _ (Nat.zero_le _)
theorem p16_le (M : Nat) : ∀ (l : List UInt8) (acc n : Nat), acc ≤ M → p16 M l acc = some (some n) → n ≤ M
  | [], acc, n, h, e => by simp only [p16, Option.some.injEq] at e; omega
  | c :: r, acc, n, h, e => by
    unfold p16 at e
    split at e
    · cases e
    · split at e
      · cases e
      · exact p16_le M r _ n (by omega) e
theorem hexNum_le (M : Nat) (l : List UInt8) : puV M (hexNum M l) ≤ M := by
  unfold hexNum
  split
  · rename_i n h
    unfold parse16 at h
    split at h
    · cases h
    · exact p16_le M l 0 n (Nat.zero_le _) h
  · exact Nat.le_refl M
  · exact Nat.zero_le M
def dec16 (s : ByteArray) : Lib.NumEnd Nat := Lib.parseUintB 16 s.data.toList
def hex32 (s : ByteArray) : Lib.NumEnd Nat := hexNum 4294967295 s.data.toList
def num16 (s : ByteArray) : Nat := puV 65535 (dec16 s)
def adr32 (s : ByteArray) : Nat := puV 4294967295 (hex32 s)
theorem dec16_le (s : ByteArray) : num16 s ≤ 65535 := parse10_le 16 _
theorem adr32_le (s : ByteArray) : adr32 s ≤ 4294967295 := hexNum_le _ _
set_option maxRecDepth 100000 in
set_option maxHeartbeats 1000000 in
theorem number_truetrue (pb T : Nat) (ws : List ByteArray) (ok : Bool) (w : World) (hR : Rd pb T w ws ok) (hE : Env pb w) (hz : (hd ws).size ≤ 140737488351232) (hbb : Hid ((ok && !isNil ws) = true)) (ho : puOk (dec16 (hd ws)) = true) :
    Calls Tryz.prog 219 #[.pointer (some ⟨pb, 0, none⟩)] w fun e w' => e = .returned (.int .i64 (num16 (hd ws))) ∧ Rd pb T w' ws.tail (ok && !isNil ws && puOk (dec16 (hd ws))) ∧ But pb w w' := by
  have hle := dec16_le (hd ws)
  unfold num16 at hle ⊢
  have hpu := fun w1 hg => pu_ok (pu10_16 (hd ws) hz w1 hg) ho
  rw [ho, hbb.out]
  clear ho
  unfold dec16 at hle ⊢
  generalize Lib.parseUintB 16 (hd ws).data.toList = o at hpu hle ⊢
  generalize puV 65535 o = n at hpu hle ⊢
  go_enter Tryz.func219, Tryz.ntmps219
  go_wp2_with (first | (go_at_call 218; (with_reducible refine (take_any pb T ws ok w hR).mono ?_); rintro e w1 ⟨rfl, hR1, hb1⟩; have hE1 := hE.but hb1; rw [hbb.out] at hR1) | (go_at_call 217; (with_reducible refine (hpu _ hE1.glob).mono ?_); rintro e w2 ⟨rfl, hb2⟩; have hR2 := hR1.below hb2; have hok2 := hR2.ok; have hf2 := hR2.hot))
  go_ret
  exact ⟨rfl, hR2.put _, (hb1.trans (But.of hb2)).setCell rfl _⟩
set_option maxRecDepth 100000 in
set_option maxHeartbeats 1000000 in
theorem number_truefalse (pb T : Nat) (ws : List ByteArray) (ok : Bool) (w : World) (hR : Rd pb T w ws ok) (hE : Env pb w) (hz : (hd ws).size ≤ 140737488351232) (hbb : Hid ((ok && !isNil ws) = true)) (ho : puOk (dec16 (hd ws)) = false) :
    Calls Tryz.prog 219 #[.pointer (some ⟨pb, 0, none⟩)] w fun e w' => e = .returned (.int .i64 (num16 (hd ws))) ∧ Rd pb T w' ws.tail (ok && !isNil ws && puOk (dec16 (hd ws))) ∧ But pb w w' := by
  have hle := dec16_le (hd ws)
  unfold num16 at hle ⊢
  have hpu := fun w1 hg => pu_bad (pu10_16 (hd ws) hz w1 hg) ho
  rw [ho, hbb.out]
  clear ho
  unfold dec16 at hle ⊢
  generalize Lib.parseUintB 16 (hd ws).data.toList = o at hpu hle ⊢
  generalize puV 65535 o = n at hpu hle ⊢
  go_enter Tryz.func219, Tryz.ntmps219
  go_wp2_with (first | (go_at_call 218; (with_reducible refine (take_any pb T ws ok w hR).mono ?_); rintro e w1 ⟨rfl, hR1, hb1⟩; have hE1 := hE.but hb1; rw [hbb.out] at hR1) | (go_at_call 217; (with_reducible refine (hpu _ hE1.glob).mono ?_); rintro e w2 ⟨⟨N, rfl⟩, hb2⟩; have hR2 := hR1.below hb2; have hok2 := hR2.ok; have hf2 := hR2.hot))
  go_ret
  exact ⟨rfl, hR2.put _, (hb1.trans (But.of hb2)).setCell rfl _⟩
set_option maxRecDepth 100000 in
set_option maxHeartbeats 1000000 in
theorem number_falsetrue (pb T : Nat) (ws : List ByteArray) (ok : Bool) (w : World) (hR : Rd pb T w ws ok) (hE : Env pb w) (hz : (hd ws).size ≤ 140737488351232) (hbb : Hid ((ok && !isNil ws) = false)) (ho : puOk (dec16 (hd ws)) = true) :
    Calls Tryz.prog 219 #[.pointer (some ⟨pb, 0, none⟩)] w fun e w' => e = .returned (.int .i64 (num16 (hd ws))) ∧ Rd pb T w' ws.tail (ok && !isNil ws && puOk (dec16 (hd ws))) ∧ But pb w w' := by
  have hle := dec16_le (hd ws)
  unfold num16 at hle ⊢
  have hpu := fun w1 hg => pu_ok (pu10_16 (hd ws) hz w1 hg) ho
  rw [ho, hbb.out]
  clear ho
  unfold dec16 at hle ⊢
  generalize Lib.parseUintB 16 (hd ws).data.toList = o at hpu hle ⊢
  generalize puV 65535 o = n at hpu hle ⊢
  go_enter Tryz.func219, Tryz.ntmps219
  go_wp2_with (first | (go_at_call 218; (with_reducible refine (take_any pb T ws ok w hR).mono ?_); rintro e w1 ⟨rfl, hR1, hb1⟩; have hE1 := hE.but hb1; rw [hbb.out] at hR1) | (go_at_call 217; (with_reducible refine (hpu _ hE1.glob).mono ?_); rintro e w2 ⟨rfl, hb2⟩; have hR2 := hR1.below hb2; have hok2 := hR2.ok; have hf2 := hR2.hot))
  go_ret
  exact ⟨rfl, hR2.put _, (hb1.trans (But.of hb2)).setCell rfl _⟩
set_option maxRecDepth 100000 in
set_option maxHeartbeats 1000000 in
theorem number_falsefalse (pb T : Nat) (ws : List ByteArray) (ok : Bool) (w : World) (hR : Rd pb T w ws ok) (hE : Env pb w) (hz : (hd ws).size ≤ 140737488351232) (hbb : Hid ((ok && !isNil ws) = false)) (ho : puOk (dec16 (hd ws)) = false) :
    Calls Tryz.prog 219 #[.pointer (some ⟨pb, 0, none⟩)] w fun e w' => e = .returned (.int .i64 (num16 (hd ws))) ∧ Rd pb T w' ws.tail (ok && !isNil ws && puOk (dec16 (hd ws))) ∧ But pb w w' := by
  have hle := dec16_le (hd ws)
  unfold num16 at hle ⊢
  have hpu := fun w1 hg => pu_bad (pu10_16 (hd ws) hz w1 hg) ho
  rw [ho, hbb.out]
  clear ho
  unfold dec16 at hle ⊢
  generalize Lib.parseUintB 16 (hd ws).data.toList = o at hpu hle ⊢
  generalize puV 65535 o = n at hpu hle ⊢
  go_enter Tryz.func219, Tryz.ntmps219
  go_wp2_with (first | (go_at_call 218; (with_reducible refine (take_any pb T ws ok w hR).mono ?_); rintro e w1 ⟨rfl, hR1, hb1⟩; have hE1 := hE.but hb1; rw [hbb.out] at hR1) | (go_at_call 217; (with_reducible refine (hpu _ hE1.glob).mono ?_); rintro e w2 ⟨⟨N, rfl⟩, hb2⟩; have hR2 := hR1.below hb2; have hok2 := hR2.ok; have hf2 := hR2.hot))
  go_ret
  exact ⟨rfl, hR2.put _, (hb1.trans (But.of hb2)).setCell rfl _⟩
theorem number_any (pb T : Nat) (ws : List ByteArray) (ok : Bool) (w : World) (hR : Rd pb T w ws ok) (hE : Env pb w) (hz : (hd ws).size ≤ 140737488351232) :
    Calls Tryz.prog 219 #[.pointer (some ⟨pb, 0, none⟩)] w fun e w' => e = .returned (.int .i64 (num16 (hd ws))) ∧ Rd pb T w' ws.tail (ok && !isNil ws && puOk (dec16 (hd ws))) ∧ But pb w w' := by
  rcases Bool.eq_false_or_eq_true (ok && !isNil ws) with hbb | hbb <;> rcases Bool.eq_false_or_eq_true (puOk (dec16 (hd ws))) with ho | ho
  · exact number_truetrue pb T ws ok w hR hE hz (Lib.hid hbb) ho
  · exact number_truefalse pb T ws ok w hR hE hz (Lib.hid hbb) ho
  · exact number_falsetrue pb T ws ok w hR hE hz (Lib.hid hbb) ho
  · exact number_falsefalse pb T ws ok w hR hE hz (Lib.hid hbb) ho
set_option maxRecDepth 100000 in
set_option maxHeartbeats 1000000 in
theorem address_truetrue (pb T : Nat) (ws : List ByteArray) (ok : Bool) (w : World) (hR : Rd pb T w ws ok) (hE : Env pb w) (hz : (hd ws).size ≤ 140737488351232) (hbb : Hid ((ok && !isNil ws) = true)) (ho : puOk (hex32 (hd ws)) = true) :
    Calls Tryz.prog 264 #[.pointer (some ⟨pb, 0, none⟩)] w fun e w' => e = .returned (.int .u32 (adr32 (hd ws))) ∧ Rd pb T w' ws.tail (ok && !isNil ws && puOk (hex32 (hd ws))) ∧ But pb w w' := by
  have hle := adr32_le (hd ws)
  unfold adr32 at hle ⊢
  have hpu := fun w1 hg => pu_ok (pu16_32 (hd ws) hz w1 hg) ho
  rw [ho, hbb.out]
  clear ho
  unfold hex32 at hle ⊢
  generalize hexNum 4294967295 (hd ws).data.toList = o at hpu hle ⊢
  generalize puV 4294967295 o = n at hpu hle ⊢
  go_enter Tryz.func264, Tryz.ntmps264
  go_wp2_with (first | (go_at_call 218; (with_reducible refine (take_any pb T ws ok w hR).mono ?_); rintro e w1 ⟨rfl, hR1, hb1⟩; have hE1 := hE.but hb1; rw [hbb.out] at hR1) | (go_at_call 217; (with_reducible refine (hpu _ hE1.glob).mono ?_); rintro e w2 ⟨rfl, hb2⟩; have hR2 := hR1.below hb2; have hok2 := hR2.ok; have hf2 := hR2.hot))
  go_ret
  exact ⟨rfl, hR2.put _, (hb1.trans (But.of hb2)).setCell rfl _⟩
set_option maxRecDepth 100000 in
set_option maxHeartbeats 1000000 in
theorem address_truefalse (pb T : Nat) (ws : List ByteArray) (ok : Bool) (w : World) (hR : Rd pb T w ws ok) (hE : Env pb w) (hz : (hd ws).size ≤ 140737488351232) (hbb : Hid ((ok && !isNil ws) = true)) (ho : puOk (hex32 (hd ws)) = false) :
    Calls Tryz.prog 264 #[.pointer (some ⟨pb, 0, none⟩)] w fun e w' => e = .returned (.int .u32 (adr32 (hd ws))) ∧ Rd pb T w' ws.tail (ok && !isNil ws && puOk (hex32 (hd ws))) ∧ But pb w w' := by
  have hle := adr32_le (hd ws)
  unfold adr32 at hle ⊢
  have hpu := fun w1 hg => pu_bad (pu16_32 (hd ws) hz w1 hg) ho
  rw [ho, hbb.out]
  clear ho
  unfold hex32 at hle ⊢
  generalize hexNum 4294967295 (hd ws).data.toList = o at hpu hle ⊢
  generalize puV 4294967295 o = n at hpu hle ⊢
  go_enter Tryz.func264, Tryz.ntmps264
  go_wp2_with (first | (go_at_call 218; (with_reducible refine (take_any pb T ws ok w hR).mono ?_); rintro e w1 ⟨rfl, hR1, hb1⟩; have hE1 := hE.but hb1; rw [hbb.out] at hR1) | (go_at_call 217; (with_reducible refine (hpu _ hE1.glob).mono ?_); rintro e w2 ⟨⟨N, rfl⟩, hb2⟩; have hR2 := hR1.below hb2; have hok2 := hR2.ok; have hf2 := hR2.hot))
  go_ret
  exact ⟨rfl, hR2.put _, (hb1.trans (But.of hb2)).setCell rfl _⟩
set_option maxRecDepth 100000 in
set_option maxHeartbeats 1000000 in
theorem address_falsetrue (pb T : Nat) (ws : List ByteArray) (ok : Bool) (w : World) (hR : Rd pb T w ws ok) (hE : Env pb w) (hz : (hd ws).size ≤ 140737488351232) (hbb : Hid ((ok && !isNil ws) = false)) (ho : puOk (hex32 (hd ws)) = true) :
    Calls Tryz.prog 264 #[.pointer (some ⟨pb, 0, none⟩)] w fun e w' => e = .returned (.int .u32 (adr32 (hd ws))) ∧ Rd pb T w' ws.tail (ok && !isNil ws && puOk (hex32 (hd ws))) ∧ But pb w w' := by
  have hle := adr32_le (hd ws)
  unfold adr32 at hle ⊢
  have hpu := fun w1 hg => pu_ok (pu16_32 (hd ws) hz w1 hg) ho
  rw [ho, hbb.out]
  clear ho
  unfold hex32 at hle ⊢
  generalize hexNum 4294967295 (hd ws).data.toList = o at hpu hle ⊢
  generalize puV 4294967295 o = n at hpu hle ⊢
  go_enter Tryz.func264, Tryz.ntmps264
  go_wp2_with (first | (go_at_call 218; (with_reducible refine (take_any pb T ws ok w hR).mono ?_); rintro e w1 ⟨rfl, hR1, hb1⟩; have hE1 := hE.but hb1; rw [hbb.out] at hR1) | (go_at_call 217; (with_reducible refine (hpu _ hE1.glob).mono ?_); rintro e w2 ⟨rfl, hb2⟩; have hR2 := hR1.below hb2; have hok2 := hR2.ok; have hf2 := hR2.hot))
  go_ret
  exact ⟨rfl, hR2.put _, (hb1.trans (But.of hb2)).setCell rfl _⟩
set_option maxRecDepth 100000 in
set_option maxHeartbeats 1000000 in
theorem address_falsefalse (pb T : Nat) (ws : List ByteArray) (ok : Bool) (w : World) (hR : Rd pb T w ws ok) (hE : Env pb w) (hz : (hd ws).size ≤ 140737488351232) (hbb : Hid ((ok && !isNil ws) = false)) (ho : puOk (hex32 (hd ws)) = false) :
    Calls Tryz.prog 264 #[.pointer (some ⟨pb, 0, none⟩)] w fun e w' => e = .returned (.int .u32 (adr32 (hd ws))) ∧ Rd pb T w' ws.tail (ok && !isNil ws && puOk (hex32 (hd ws))) ∧ But pb w w' := by
  have hle := adr32_le (hd ws)
  unfold adr32 at hle ⊢
  have hpu := fun w1 hg => pu_bad (pu16_32 (hd ws) hz w1 hg) ho
  rw [ho, hbb.out]
  clear ho
  unfold hex32 at hle ⊢
  generalize hexNum 4294967295 (hd ws).data.toList = o at hpu hle ⊢
  generalize puV 4294967295 o = n at hpu hle ⊢
  go_enter Tryz.func264, Tryz.ntmps264
  go_wp2_with (first | (go_at_call 218; (with_reducible refine (take_any pb T ws ok w hR).mono ?_); rintro e w1 ⟨rfl, hR1, hb1⟩; have hE1 := hE.but hb1; rw [hbb.out] at hR1) | (go_at_call 217; (with_reducible refine (hpu _ hE1.glob).mono ?_); rintro e w2 ⟨⟨N, rfl⟩, hb2⟩; have hR2 := hR1.below hb2; have hok2 := hR2.ok; have hf2 := hR2.hot))
  go_ret
  exact ⟨rfl, hR2.put _, (hb1.trans (But.of hb2)).setCell rfl _⟩
theorem address_any (pb T : Nat) (ws : List ByteArray) (ok : Bool) (w : World) (hR : Rd pb T w ws ok) (hE : Env pb w) (hz : (hd ws).size ≤ 140737488351232) :
    Calls Tryz.prog 264 #[.pointer (some ⟨pb, 0, none⟩)] w fun e w' => e = .returned (.int .u32 (adr32 (hd ws))) ∧ Rd pb T w' ws.tail (ok && !isNil ws && puOk (hex32 (hd ws))) ∧ But pb w w' := by
  rcases Bool.eq_false_or_eq_true (ok && !isNil ws) with hbb | hbb <;> rcases Bool.eq_false_or_eq_true (puOk (hex32 (hd ws))) with ho | ho
  · exact address_truetrue pb T ws ok w hR hE hz (Lib.hid hbb) ho
  · exact address_truefalse pb T ws ok w hR hE hz (Lib.hid hbb) ho
  · exact address_falsetrue pb T ws ok w hR hE hz (Lib.hid hbb) ho
  · exact address_falsefalse pb T ws ok w hR hE hz (Lib.hid hbb) ho
end Go.Proofs.YtmjojlacpgdomaaGreatDoor
