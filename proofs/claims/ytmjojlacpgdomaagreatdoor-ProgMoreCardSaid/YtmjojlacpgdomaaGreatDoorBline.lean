import Derived.Test.YtmjojlacpgdomaaGreatDoorBline1
import Derived.Test.YtmjojlacpgdomaaGreatDoorBline2
import Derived.Test.YtmjojlacpgdomaaGreatDoorBline3
/-! prog.Line. -/
namespace Go.Proofs.YtmjojlacpgdomaaGreatDoor
set_option linter.unusedSimpArgs false
set_option linter.unusedVariables false
open Go Go.RowKit
set_option maxRecDepth 100000 in
set_option maxHeartbeats 2000000 in
theorem line_bad (op size addr data tt k ix wo li rw rf rt rk : Int) (idx on rd wr lk : Bool) (w : World) (hf : Ins.Fit ⟨op, size, addr, idx, data, tt, ⟨k, ix, wo, li, ⟨on, rw, rf, rt, rd, wr, rk, lk⟩⟩⟩) (hcr : Hid (insRight ⟨op, size, addr, idx, data, tt, ⟨k, ix, wo, li, ⟨on, rw, rf, rt, rd, wr, rk, lk⟩⟩⟩ = false)) :
    Calls Tryz.prog 22 #[.agg #[.int .i64 op, .int .i64 size, .int .u32 addr, .bool idx, .int .u32 data, .int .i64 tt, .int .i64 k, .int .i64 ix, .int .i64 wo, .int .i64 li, .bool on, .int .i64 rw, .int .u32 rf, .int .u32 rt, .bool rd, .bool wr, .int .i64 rk, .bool lk]] w fun e w' => e = .returned (.tuple #[.string ⟨#[]⟩, .int .i64 4]) ∧ Below w.heap.size w w' := by
  have hcall := fun W => instr_any ⟨op, size, addr, idx, data, tt, ⟨k, ix, wo, li, ⟨on, rw, rf, rt, rd, wr, rk, lk⟩⟩⟩ hf W
  rw [hcr.out] at hcall
  clear hcr
  go_enter Tryz.func22, Tryz.ntmps22
  go_wp2_with (first | ((with_reducible refine wpl_load 33 _ rfl ?_ w.heap.size 0 ?_ _ _ (CellsAt.new _ _ _) Tryz.underlying33 rfl (by kernel_rfl) ?_); (· rfl); (· rfl)) | (go_at_call 15; (refine (hcall _).mono ?_); rintro e w1 ⟨rfl, hb1⟩))
  go_ret2
  exact ⟨rfl, ((Below.refl _ _).alloc (Nat.le_refl _) _).trans (hb1.mono (by simp))⟩
theorem insText_len {x : Ins} (h : insRight x = true) (hf : x.Fit) : (insText x).length ≤ 20000 := by
  have hp := ins_parts h
  have htl := @text_len x.conf
  obtain ⟨op, size, addr, idx, data, tt, conf⟩ := x
  obtain ⟨⟨a0, a1⟩, ⟨d0, d1⟩, hcf⟩ := hf
  simp only at hp a0 a1 d0 d1 htl
  have l1 := hex_len 8 addr.toNat
  have l2 := hex_len 8 data.toNat
  rcases hp with ⟨ho, hs, rfl, rfl, rfl⟩ | ⟨rfl, hs, rfl, rfl⟩ | ⟨ho, rfl, rfl, rfl, rfl, rfl, rfl⟩ | ⟨rfl, t0, t1, rfl, rfl, rfl, rfl⟩ | ⟨rfl, t0, t1, rfl, rfl, rfl, rfl, rfl⟩ | ⟨rfl, hd9, rfl, rfl, rfl, rfl, rfl⟩ | ⟨rfl, hd9, rfl, rfl, rfl, rfl, rfl⟩ | ⟨rfl, hr, rfl, rfl, rfl, rfl, rfl⟩
  · have s0 : 0 < size := by omega
    have l4 := itoa_len size (by omega)
    rcases ho with rfl | rfl <;> cases idx <;> simp [insText, insWords, opWords, s0, Lib.join_length, Lib.lens] <;> omega
  · have s0 : 0 < size := by omega
    have l4 := itoa_len size (by omega)
    cases idx <;> simp [insText, insWords, opWords, s0, Lib.join_length, Lib.lens] <;> omega
  · rcases ho with rfl | rfl <;> simp [insText, insWords, opWords, Lib.join_length, Lib.lens]
  · have l4 := itoa_len tt t0
    simp [insText, insWords, opWords, Lib.join_length, Lib.lens]; omega
  · have l4 := itoa_len tt t0
    simp [insText, insWords, opWords, Lib.join_length, Lib.lens]; omega
  · have l4 := itoa_len data d0
    simp [insText, insWords, opWords, Lib.join_length, Lib.lens]; omega
  · simp [insText, insWords, opWords, Lib.join_length, Lib.lens]; omega
  · have := htl hr
    simp [insText, insWords, opWords, Lib.join_length, Lib.lens]; omega
theorem line_yes (x : Ins) (w : World) (hG : Glob w) (hf : x.Fit) (h : insRight x = true) :
    Calls Tryz.prog 22 #[.agg x.cells.toArray] w fun e w' => e = .returned (.tuple #[.string ⟨(insText x).toArray⟩, .int .i64 0]) ∧ Below w.heap.size w w' := by
  have hl := insText_len h hf
  have hp := ins_parts h
  have hf' := hf
  obtain ⟨op, size, addr, idx, data, tt, ⟨k, ix, wo, li, ⟨on, rw, rf, rt, rd, wr, rk, lk⟩⟩⟩ := x
  obtain ⟨⟨a0, a1⟩, ⟨d0, d1⟩, hcf⟩ := hf
  simp only at hp a0 a1 d0 d1 hcf
  rcases hp with ⟨ho, hs, rfl, rfl, hz⟩ | ⟨rfl, hs, rfl, hz⟩ | ⟨ho, rfl, rfl, rfl, rfl, rfl, hz⟩ | ⟨rfl, t0, t1, rfl, rfl, rfl, hz⟩ | ⟨rfl, t0, t1, rfl, rfl, rfl, rfl, hz⟩ | ⟨rfl, hd9, rfl, rfl, rfl, rfl, hz⟩ | ⟨rfl, hd9, rfl, rfl, rfl, rfl, hz⟩ | ⟨rfl, hr, rfl, rfl, rfl, rfl, rfl⟩
  · cases hz
    have s0 : 0 < size := by omega
    rcases ho with rfl | rfl <;> cases idx
    · have e : insText ⟨1, size, addr, false, 0, 0, .zero⟩ = Lib.join [[108, 111, 97, 100], Lib.itoa size, hexN 8 addr.toNat] [32] := by simp [insText, insWords, opWords, s0]
      erw [e] at hl ⊢; exact line_1 size addr w hG (Lib.hid h) hf' s0 (by omega) a0 a1 (Nat.le_trans hl (by decide))
    · have e : insText ⟨1, size, addr, true, 0, 0, .zero⟩ = Lib.join [[108, 111, 97, 100], Lib.itoa size, hexN 8 addr.toNat, [43]] [32] := by simp [insText, insWords, opWords, s0]
      erw [e] at hl ⊢; exact line_1p size addr w hG (Lib.hid h) hf' s0 (by omega) a0 a1 (Nat.le_trans hl (by decide))
    · have e : insText ⟨3, size, addr, false, 0, 0, .zero⟩ = Lib.join [[112, 117, 116], Lib.itoa size, hexN 8 addr.toNat] [32] := by simp [insText, insWords, opWords, s0]
      erw [e] at hl ⊢; exact line_3 size addr w hG (Lib.hid h) hf' s0 (by omega) a0 a1 (Nat.le_trans hl (by decide))
    · have e : insText ⟨3, size, addr, true, 0, 0, .zero⟩ = Lib.join [[112, 117, 116], Lib.itoa size, hexN 8 addr.toNat, [43]] [32] := by simp [insText, insWords, opWords, s0]
      erw [e] at hl ⊢; exact line_3p size addr w hG (Lib.hid h) hf' s0 (by omega) a0 a1 (Nat.le_trans hl (by decide))
  · cases hz
    have s0 : 0 < size := by omega
    cases idx
    · have e : insText ⟨2, size, addr, false, data, 0, .zero⟩ = Lib.join [[115, 116, 111, 114, 101], Lib.itoa size, hexN 8 addr.toNat, hexN 8 data.toNat] [32] := by simp [insText, insWords, opWords, s0]
      erw [e] at hl ⊢; exact line_2 size addr data w hG (Lib.hid h) hf' s0 (by omega) a0 a1 d0 d1 (Nat.le_trans hl (by decide))
    · have e : insText ⟨2, size, addr, true, data, 0, .zero⟩ = Lib.join [[115, 116, 111, 114, 101], Lib.itoa size, hexN 8 addr.toNat, [43], hexN 8 data.toNat] [32] := by simp [insText, insWords, opWords, s0]
      erw [e] at hl ⊢; exact line_2p size addr data w hG (Lib.hid h) hf' s0 (by omega) a0 a1 d0 d1 (Nat.le_trans hl (by decide))
  · cases hz
    rcases ho with rfl | rfl
    · exact line_4 w hG (Lib.hid h) hf' (Nat.le_trans hl (by decide))
    · exact line_10 w hG (Lib.hid h) hf' (Nat.le_trans hl (by decide))
  · cases hz
    exact line_5 data tt w hG (Lib.hid h) hf' d0 d1 t0 t1 (Nat.le_trans hl (by decide))
  · cases hz
    exact line_6 tt w hG (Lib.hid h) hf' t0 t1 (Nat.le_trans hl (by decide))
  · cases hz
    exact line_7 data w hG (Lib.hid h) hf' d0 d1 (Nat.le_trans hl (by decide))
  · cases hz
    exact line_8 data w hG (Lib.hid h) hf' d0 d1 (Nat.le_trans hl (by decide))
  · exact line_9 k ix wo li rw rf rt rk on rd wr lk w hG (Lib.hid h) hf' hcf (Lib.hid hr) (Nat.le_trans hl (by decide))
theorem line_no (x : Ins) (w : World) (hf : x.Fit) (h : insRight x = false) :
    Calls Tryz.prog 22 #[.agg x.cells.toArray] w fun e w' => e = .returned (.tuple #[.string ⟨#[]⟩, .int .i64 4]) ∧ Below w.heap.size w w' := by
  obtain ⟨op, size, addr, idx, data, tt, ⟨k, ix, wo, li, ⟨on, rw, rf, rt, rd, wr, rk, lk⟩⟩⟩ := x
  exact line_bad op size addr data tt k ix wo li rw rf rt rk idx on rd wr lk w hf (Lib.hid h)
end Go.Proofs.YtmjojlacpgdomaaGreatDoor
