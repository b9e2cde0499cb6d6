import Derived.Test.YtmjojlacpgdomaaGreatDoorBshow2
import Derived.Test.YtmjojlacpgdomaaGreatDoorBshow3
/-! conf.Show. -/
namespace Go.Proofs.YtmjojlacpgdomaaGreatDoor
set_option linter.unusedSimpArgs false
set_option linter.unusedVariables false
open Go Go.RowKit
set_option maxRecDepth 100000 in
set_option maxHeartbeats 2000000 in
theorem show_bad (k ix wo li rw rf rt rk : Int) (on rd wr lk : Bool) (w : World) (hcr : Hid (cmdRight ⟨k, ix, wo, li, ⟨on, rw, rf, rt, rd, wr, rk, lk⟩⟩ = false)) :
    Calls Tryz.prog 61 #[.agg #[.int .i64 k, .int .i64 ix, .int .i64 wo, .int .i64 li, .bool on, .int .i64 rw, .int .u32 rf, .int .u32 rt, .bool rd, .bool wr, .int .i64 rk, .bool lk]] w fun e w' => e = .returned (.tuple #[.string ⟨#[]⟩, .int .i64 4]) ∧ Below w.heap.size w w' := by
  have hcall := fun W => right_any k ix wo li rw rf rt rk on rd wr lk W
  rw [hcr.out] at hcall
  clear hcr
  go_enter Tryz.func61, Tryz.ntmps61
  go_wp2_with (first | ((with_reducible refine wpl_load 31 _ rfl ?_ w.heap.size 0 ?_ _ _ (CellsAt.new _ _ _) Tryz.underlying31 rfl (by kernel_rfl) ?_); (· rfl); (· rfl)) | (go_at_call 129; (with_reducible refine (hcall _).mono ?_); rintro e w1 ⟨rfl, hb1⟩))
  go_ret2
  exact ⟨rfl, ((Below.refl _ _).alloc (Nat.le_refl _) _).trans (hb1.mono (by simp))⟩
theorem itoa_len (n : Int) (h0 : 0 ≤ n) : ((Lib.itoa n).length : Int) ≤ n + 1 := by
  rw [itoa_nat n h0]
  have := dec_len n.toNat
  omega
theorem line_len (n : Int) (h1 : n ≤ 99) : (lineW n).length ≤ 100 := by
  unfold lineW
  split
  · simp
  · have := itoa_len n (by omega); omega
theorem rights_len (a b : Bool) : (rightsW a b).length ≤ 2 := by cases a <;> cases b <;> decide
theorem text_len {c : Cmd} (h : cmdRight c = true) : (cmdText c).length ≤ 5000 := by
  have hp := right_parts h
  obtain ⟨k, ix, wo, li, ⟨on, rw, rf, rt, rd, wr, rk, lk⟩⟩ := c
  simp only at hp
  have l1 := hex_len 8 rf.toNat
  have l2 := hex_len 8 rt.toNat
  have l3 := rights_len rd wr
  rcases hp with ⟨rfl, rfl, rfl, rfl, a, b, d, e, f, g⟩ | ⟨hk, rfl, rfl, hz, a, b⟩ | ⟨hk, rfl, hz, a, b, d, e⟩ | ⟨rfl, rfl, hz, a, b, d, e⟩ | ⟨rfl, rfl, rfl, rfl, hz⟩
  · have l4 := itoa_len ix a
    have l5 := itoa_len rw d
    have l6 := itoa_len rk f
    cases lk <;> simp [cmdText, cmdWords, kindWords, Lib.join_length, Lib.lens] <;> omega
  · have l4 := itoa_len ix a
    rcases hk with rfl | rfl <;> simp [cmdText, cmdWords, kindWords, Lib.join_length, Lib.lens] <;> omega
  · have l4 := itoa_len ix a
    have l5 := itoa_len wo d
    rcases hk with rfl | rfl <;> simp [cmdText, cmdWords, kindWords, Lib.join_length, Lib.lens] <;> omega
  · have l4 := itoa_len ix a
    have l5 := line_len li e
    simp [cmdText, cmdWords, kindWords, Lib.join_length, Lib.lens]; omega
  · simp [cmdText, cmdWords, kindWords, Lib.join_length, Lib.lens]
theorem show_yes (c : Cmd) (w : World) (hG : Glob w) (hf : c.Fit) (h : cmdRight c = true) :
    Calls Tryz.prog 61 #[.agg c.cells.toArray] w fun e w' => e = .returned (.tuple #[.string ⟨(cmdText c).toArray⟩, .int .i64 0]) ∧ Below w.heap.size w w' := by
  have hl := text_len h
  have hp := right_parts h
  obtain ⟨k, ix, wo, li, ⟨on, rw, rf, rt, rd, wr, rk, lk⟩⟩ := c
  obtain ⟨⟨f0, f1⟩, t0, t1⟩ := hf
  simp only at hp f0 f1 t0 t1
  rcases hp with ⟨rfl, rfl, rfl, rfl, a, b, d, e, f, g⟩ | ⟨hk, rfl, rfl, hz, a, b⟩ | ⟨hk, rfl, hz, a, b, d, e⟩ | ⟨rfl, rfl, hz, a, b, d, e⟩ | ⟨rfl, rfl, rfl, rfl, hz⟩
  · cases lk
    · exact show_1f ix rw rf rt rk rd wr w hG (Lib.hid h) a b d e f g f0 f1 t0 t1 (Nat.le_trans hl (by decide))
    · exact show_1t ix rw rf rt rk rd wr w hG (Lib.hid h) a b d e f g f0 f1 t0 t1 (Nat.le_trans hl (by decide))
  · cases hz
    rcases hk with rfl | rfl
    · exact show_2 ix w hG (Lib.hid h) a b (Nat.le_trans hl (by decide))
    · exact show_4 ix w hG (Lib.hid h) a b (Nat.le_trans hl (by decide))
  · cases hz
    rcases hk with rfl | rfl
    · exact show_3 ix wo w hG (Lib.hid h) a b d e (Nat.le_trans hl (by decide))
    · exact show_5 ix wo w hG (Lib.hid h) a b d e (Nat.le_trans hl (by decide))
  · cases hz
    exact show_6 ix li w hG (Lib.hid h) a b e (Nat.le_trans hl (by decide))
  · cases hz
    exact show_7 w hG (Lib.hid h) (Nat.le_trans hl (by decide))
theorem show_no (c : Cmd) (w : World) (h : cmdRight c = false) :
    Calls Tryz.prog 61 #[.agg c.cells.toArray] w fun e w' => e = .returned (.tuple #[.string ⟨#[]⟩, .int .i64 4]) ∧ Below w.heap.size w w' := by
  obtain ⟨k, ix, wo, li, ⟨on, rw, rf, rt, rd, wr, rk, lk⟩⟩ := c
  exact show_bad k ix wo li rw rf rt rk on rd wr lk w (Lib.hid h)
end Go.Proofs.YtmjojlacpgdomaaGreatDoor
