import Derived.Test.YtmjojlacpgdomaaGreatDoorAread
/-! (conf.reader).line, region. -/
namespace Go.Proofs.YtmjojlacpgdomaaGreatDoor
set_option linter.unusedSimpArgs false
set_option linter.unusedVariables false
open Go Go.RowKit
theorem Rd.aside {pb T : Nat} {w : World} {ws : List ByteArray} {ok : Bool} (h : Rd pb T w ws ok) {p : Addr} (hp : pb < p.block) (x : Value) : Rd pb T (w.setCell p x) ws ok := by
  obtain ⟨v, hr, a, c, hv, hl, hc, hs⟩ := h
  have hk : ∀ k, k ≤ pb → (w.setCell p x).heap[k]? = w.heap[k]? := fun k hk => Below.heap_setCell _ _ _ _ (by omega)
  refine ⟨v, (hk pb (Nat.le_refl _)).trans hr, a, c, hv, hl, hc, fun hne => ?_⟩
  obtain ⟨r, o, rfl, hrp, hx⟩ := hs hne
  exact ⟨r, o, rfl, hrp, fun j y hj => (World.cell?_of_block (hk r (by omega))).trans (hx j y hj)⟩
theorem Rd.alloc {pb T : Nat} {w : World} {ws : List ByteArray} {ok : Bool} (h : Rd pb T w ws ok) (o : Obj) : Rd pb T (w.alloc o) ws ok := h.below ((Below.refl _ _).alloc (Nat.le_refl _) o)
theorem Env.alloc {pb : Nat} {w : World} (h : Env pb w) (o : Obj) : Env pb (w.alloc o) := h.but (But.of ((Below.refl _ _).alloc (Nat.le_refl _) o))
theorem Env.aside {pb : Nat} {w : World} (h : Env pb w) {p : Addr} (hp : pb < p.block) (x : Value) : Env pb (w.setCell p x) :=
  let ⟨w0, h0, hl, hb⟩ := h; ⟨w0, h0, hl, hb.setCell (show w0.heap.size ≤ p.block by omega) x⟩
theorem str_ne {x : ByteArray} {l : List UInt8} (h : ¬ x = ⟨l.toArray⟩) : (x.toList == l) = false := by
  rw [beq_eq_false_iff_ne]
  intro e
  apply h
  rw [Lib.toList_data] at e
  obtain ⟨⟨d⟩⟩ := x
  simp at e
  rw [e]
def isDash (ws : List ByteArray) : Bool := match ws with | [] => false | x :: _ => decide (x = ⟨#[45]⟩)
set_option maxRecDepth 100000 in
set_option maxHeartbeats 1000000 in
theorem line_dash (pb T : Nat) (ws : List ByteArray) (ok : Bool) (w : World) (hR : Rd pb T w (⟨#[45]⟩ :: ws) ok) :
    Calls Tryz.prog 221 #[.pointer (some ⟨pb, 0, none⟩)] w fun e w' => e = .returned (.int .i64 (-1)) ∧ Rd pb T w' ws ok ∧ But pb w w' := by
  have htk := take_any pb T _ ok w hR
  simp only [isNil, Bool.not_false, Bool.and_true, List.tail_cons] at htk
  obtain ⟨v, hr, a, c, rfl, hl, hc, hs⟩ := hR
  obtain ⟨r, o, rfl, hrp, hx⟩ := hs (by simp)
  have h0 := row_cell hr 0
  have hx0 := hx 0 _ rfl
  simp only [List.getElem?_cons_zero, List.length_cons, Nat.add_zero] at h0 hx0
  clear hx hs hr
  go_enter Tryz.func221, Tryz.ntmps221
  go_wp2_with (go_at_call 218; (with_reducible refine htk.mono ?_); rintro e w1 ⟨rfl, hR1, hb1⟩)
  go_ret
  exact ⟨rfl, hR1, hb1⟩
set_option maxRecDepth 100000 in
set_option maxHeartbeats 1000000 in
theorem line_nil (pb T : Nat) (ok : Bool) (w : World) (hR : Rd pb T w [] ok) (hE : Env pb w) :
    Calls Tryz.prog 221 #[.pointer (some ⟨pb, 0, none⟩)] w fun e w' => e = .returned (.int .i64 (num16 (hd []))) ∧ Rd pb T w' [].tail (ok && !isNil [] && puOk (dec16 (hd []))) ∧ But pb w w' := by
  have htk := number_any pb T [] ok w hR hE (by simp [hd, ByteArray.size])
  generalize num16 (hd []) = n at htk ⊢
  generalize (ok && !isNil [] && puOk (dec16 (hd []))) = b at htk ⊢
  obtain ⟨v, hr, a, c, rfl, hl, hc, hs⟩ := hR
  have h0 := row_cell hr 0
  simp only [List.getElem?_cons_zero, List.length_nil] at h0
  clear hs hr
  go_enter Tryz.func221, Tryz.ntmps221
  go_wp2_with (go_at_call 219; (with_reducible refine htk.mono ?_); rintro e w1 ⟨rfl, hR1, hb1⟩)
  go_ret
  exact ⟨rfl, hR1, hb1⟩
set_option maxRecDepth 100000 in
set_option maxHeartbeats 1000000 in
theorem line_num (pb T : Nat) (x : ByteArray) (ws : List ByteArray) (ok : Bool) (w : World) (hR : Rd pb T w (x :: ws) ok) (hE : Env pb w) (hz : x.size ≤ 140737488351232) (hne : ¬ x = ⟨#[45]⟩) :
    Calls Tryz.prog 221 #[.pointer (some ⟨pb, 0, none⟩)] w fun e w' => e = .returned (.int .i64 (num16 (hd (x :: ws)))) ∧ Rd pb T w' (x :: ws).tail (ok && !isNil (x :: ws) && puOk (dec16 (hd (x :: ws)))) ∧ But pb w w' := by
  have htk := number_any pb T (x :: ws) ok w hR hE hz
  have hx1 : (x.toList == [45]) = false := str_ne hne
  clear hne
  generalize num16 (hd (x :: ws)) = n at htk ⊢
  generalize (ok && !isNil (x :: ws) && puOk (dec16 (hd (x :: ws)))) = b at htk ⊢
  obtain ⟨v, hr, a, c, rfl, hl, hc, hs⟩ := hR
  obtain ⟨r, o, rfl, hrp, hx⟩ := hs (by simp)
  have h0 := row_cell hr 0
  have hx0 := hx 0 _ rfl
  simp only [List.getElem?_cons_zero, List.length_cons, Nat.add_zero] at h0 hx0
  clear hx hs hr
  go_enter Tryz.func221, Tryz.ntmps221
  go_wp2_with (go_at_call 219; (with_reducible refine htk.mono ?_); rintro e w1 ⟨rfl, hR1, hb1⟩)
  go_ret
  exact ⟨rfl, hR1, hb1⟩
def lineV (ws : List ByteArray) : Int := if isDash ws then -1 else (num16 (hd ws) : Nat)
def lineOk (ws : List ByteArray) : Bool := isDash ws || (!isNil ws && puOk (dec16 (hd ws)))
theorem line_any (pb T : Nat) (ws : List ByteArray) (ok : Bool) (w : World) (hR : Rd pb T w ws ok) (hE : Env pb w) (hz : (hd ws).size ≤ 140737488351232) :
    Calls Tryz.prog 221 #[.pointer (some ⟨pb, 0, none⟩)] w fun e w' => e = .returned (.int .i64 (lineV ws)) ∧ Rd pb T w' ws.tail (ok && lineOk ws) ∧ But pb w w' := by
  rcases ws with _ | ⟨x, ws⟩
  · have := line_nil pb T ok w hR hE
    simpa [lineV, lineOk, isDash, isNil] using this
  · by_cases hx : x = ⟨#[45]⟩
    · subst hx
      have := line_dash pb T ws ok w hR
      simpa [lineV, lineOk, isDash] using this
    · have := line_num pb T x ws ok w hR hE hz hx
      simpa [lineV, lineOk, isDash, hx, isNil] using this
end Go.Proofs.YtmjojlacpgdomaaGreatDoor
