import Derived.Test.YtmjojlacpgdomaaGreatDoorAglob
import Derived.Lib.LazyBuf
/-! A number's digits to the base 16: strconv.FormatUint(v, 16). -/
namespace Go.Proofs.YtmjojlacpgdomaaGreatDoor
set_option linter.unusedSimpArgs false
set_option linter.unusedVariables false
open Go Go.RowKit
def hexdig (d : Nat) : UInt8 := if d < 10 then (48 + d).toUInt8 else (87 + d).toUInt8
def hexN : Nat → Nat → List UInt8
  | 0, _ => []
  | f + 1, v => if v < 16 then [hexdig v] else hexN f (v / 16) ++ [hexdig (v % 16)]
def hexRow (D : List UInt8) : Array Value := (List.replicate (65 - D.length) (Value.int .u8 0) ++ D.map fun c => Value.int .u8 c.toNat).toArray
theorem hexRow_cell {W : World} {b : Nat} {D : List UInt8} (h : Hid (W.heap[b]? = some (.cells (hexRow D) 307))) (j : Nat) (hj : j + D.length < 65) : W.cell? ⟨b, j, none⟩ = some (.int .u8 0) := by
  have h' := h.out
  simp [World.cell?, h', hexRow, List.getElem?_append, show j < 65 - D.length by omega]
theorem hexRow_free {W : World} {b : Nat} {D : List UInt8} (h : Hid (W.heap[b]? = some (.cells (hexRow D) 307))) : ∀ j, W.frozen? ⟨b, j, none⟩ = false := fun j => by
  have h' := h.out
  simp [World.frozen?, h']
theorem dig_at (m : Nat) (hm : m < 16) (h : m < (ByteArray.mk #[48, 49, 50, 51, 52, 53, 54, 55, 56, 57, 97, 98, 99, 100, 101, 102, 103, 104, 105, 106, 107, 108, 109, 110, 111, 112, 113, 114, 115, 116, 117, 118, 119, 120, 121, 122]).size) : (ByteArray.mk #[48, 49, 50, 51, 52, 53, 54, 55, 56, 57, 97, 98, 99, 100, 101, 102, 103, 104, 105, 106, 107, 108, 109, 110, 111, 112, 113, 114, 115, 116, 117, 118, 119, 120, 121, 122])[m]'h = hexdig m := by
  have key : ∀ k, k < 16 → ∀ h' : k < (ByteArray.mk #[48, 49, 50, 51, 52, 53, 54, 55, 56, 57, 97, 98, 99, 100, 101, 102, 103, 104, 105, 106, 107, 108, 109, 110, 111, 112, 113, 114, 115, 116, 117, 118, 119, 120, 121, 122]).size, (ByteArray.mk #[48, 49, 50, 51, 52, 53, 54, 55, 56, 57, 97, 98, 99, 100, 101, 102, 103, 104, 105, 106, 107, 108, 109, 110, 111, 112, 113, 114, 115, 116, 117, 118, 119, 120, 121, 122])[k]'h' = hexdig k := by decide
  exact key m hm h
theorem row_set {W : World} {b : Nat} {D : List UInt8} {q : Nat} (c : UInt8) (h : Hid (W.heap[b]? = some (.cells (hexRow D) 307))) (hq : q + 1 + D.length = 65) :
    (W.setCell ⟨b, q, none⟩ (.int .u8 c.toNat)).heap[b]? = some (.cells (hexRow (c :: D)) 307) := by
  have h' := h.out
  simp only [World.setCell, Array.getElem?_modify, if_pos, h', Option.map_some, Option.isSome_none, Bool.false_eq_true, if_false, hexRow, List.setIfInBounds_toArray]
  congr 3
  have e1 : 65 - D.length = q + 1 := by omega
  have e2 : 65 - (c :: D).length = q := by simp; omega
  rw [e1, e2, List.replicate_succ', List.map_cons]
  rw [List.append_assoc, List.set_append_right _ _ (by simp)]
  simp
theorem strOfNums_map' (l : List UInt8) : strOfNums (l.map fun b => (b.toNat : Int)) = ⟨l.toArray⟩ := by
  simp only [strOfNums, List.map_map]
  congr 2
  induction l with
  | nil => rfl
  | cons c l ih => simp only [List.map_cons, ih]; congr 1; simp
set_option maxRecDepth 10000 in
theorem conv_row {W : World} {b : Nat} {D : List UInt8} {q : Nat} (h : W.heap[b]? = some (.cells (hexRow D) 307)) (hq : q + D.length = 65) :
    (convert 106 9 (.slice (some ⟨b, q, none⟩) (65 - q) (65 - q))).run Tryz.prog W = .ok (.string ⟨D.toArray⟩) W := by
  have := run_convert_bytes_arg (P := Tryz.prog) W 106 5 Tryz.underlying106 Tryz.underlying5 b q (65 - q) (65 - q) (D.map fun c => (c.toNat : Int)) (by simp; omega) (fun i hi => by
    simp [World.cell?, h, hexRow, List.getElem?_append, List.getD, show ¬ q + i < 65 - D.length by omega, show q + i - (65 - D.length) = i by omega]
    have : i < D.length := by omega
    simp [this]) 9 Tryz.underlying9
  rw [this, strOfNums_map']
theorem tz16 (w : World) (hG : Glob w) : Calls Tryz.prog 289 #[.int .u64 16] w fun e w' => e = .returned (.int .i64 4) ∧ w = w' := by
  have h1 : bits BinOp.and IntKind.u64 16 (IntKind.u64.wrap (-16)) = 16 := by kernel_rfl
  have h2 : IntKind.u64.wrap (16 * 285870213051353865) / 288230376151711744 = 15 := by kernel_rfl
  have h3 := hG.tz
  clear hG
  go_enter Tryz.func289, Tryz.ntmps289
  go_wp2
  go_ret
  exact ⟨rfl, rfl⟩
set_option maxRecDepth 100000 in
set_option maxHeartbeats 1000000 in
theorem bits_any (v : Nat) (hv : v < 4294967296) (w : World) (hG : Glob w) :
    Calls Tryz.prog 260 #[.slice none 0 0, .int .u64 v, .int .i64 16, .bool false, .bool false] w fun e w' => e = .returned (.tuple #[.slice none 0 0, .string ⟨(hexN 8 v).toArray⟩]) ∧ Below w.heap.size w w' := by
  go_enter Tryz.func260, Tryz.ntmps260
  go_wp2_with (first | (go_at_call 289; refine (tz16 _ (by exact hG.alloc _)).mono ?_; rintro e w' ⟨rfl, rfl⟩) | go_in)
  have hv64 : v < 18446744073709551616 := by omega
  clear hG hv64
  go_loopw [1, 13] (fun u i wr => ∃ (q m : Nat) (D : List UInt8), Hid (q + 1 + D.length = 65) ∧ 57 ≤ q ∧ q ≤ 64 ∧ Hid (m < 16 ^ (q - 56)) ∧ Hid (hexN 8 v = hexN (q - 56) m ++ D) ∧ u = .int .u64 m ∧ i = .int .i64 (q + 1) ∧ Hid (wr.heap[w.heap.size]? = some (.cells (hexRow D) 307)) ∧ Below w.heap.size w wr) (fun u _ _ => (intOf u).toNat)
  case atStart =>
    refine ⟨64, v, [], rfl, by omega, by omega, ?_, ?_, rfl, rfl, ?_, (Below.refl _ _).alloc (Nat.le_refl _) _⟩
    · show v < 16 ^ 8; omega
    · show hexN 8 v = hexN 8 v ++ []; simp
    · exact heap_alloc_new _ _
  case round =>
    obtain ⟨q, m, D, hq, hq1, hq2, hm, hN, rfl, rfl, hr, hB⟩ := hrel
    have hm8 : m < 4294967296 := Nat.lt_of_lt_of_le hm.out (Nat.le_trans (Nat.pow_le_pow_right (by omega) (show q - 56 ≤ 8 by omega)) (by decide))
    have hc := hexRow_cell hr q (by have := hq.out; omega)
    have hf := hexRow_free hr
    have hq3 : (q : Int) ≤ 65 := by omega
    have hq4 : (q : Int) < 65 := by omega
    by_cases hge : m < 16
    · have hge' : ¬ (16 : Int) ≤ (m : Int) := by omega
      have hg2 : (m : Int) < 36 := by omega
      have hdig := dig_at m hge
      have hq5 : q + (hexdig m :: D).length = 65 := by
        have h := hq.out
        rw [List.length_cons]; omega
      have hconv := conv_row (row_set (hexdig m) hr hq.out) hq5
      clear hq5
      have hfin : Hid (hexN 8 v = hexdig m :: D) := by
        show hexN 8 v = hexdig m :: D
        rw [hN.out]
        obtain ⟨f, hf⟩ : ∃ f, q - 56 = f + 1 := ⟨q - 57, by omega⟩
        rw [hf]; simp [hexN, hge]
      go_wp2
      go_ret2
      exact ⟨by rw [hfin.out]; rfl, hB.setCell (Nat.le_refl _) _⟩
    · have hge' : (16 : Int) ≤ (m : Int) := by omega
      obtain ⟨p, rfl⟩ : ∃ p, q = p + 1 := ⟨q - 1, by omega⟩
      have hp : 57 ≤ p := by
        rcases Nat.lt_or_ge p 57 with h | h
        · exfalso
          have : p + 1 - 56 ≤ 1 := by omega
          have h2 : (16 : Nat) ^ (p + 1 - 56) ≤ 16 ^ 1 := Nat.pow_le_pow_right (by omega) this
          have := hm.out
          omega
        · exact h
      have hand : bits BinOp.and IntKind.u64 (m : Int) 15 = ((m % 16 : Nat) : Int) := by
        have := bits_and_u64_nat m 15 (by omega) (by omega)
        rw [show ((15 : Nat) : Int) = 15 from rfl] at this
        rw [this]
        congr 1
        exact Nat.and_two_pow_sub_one_eq_mod m 4
      have hm16 : ((m % 16 : Nat) : Int) < 36 := by omega
      have hdig := dig_at (m % 16) (by omega)
      go_wp2
      have hq' := hq.out
      refine ⟨⟨p, m / 16, hexdig (m % 16) :: D, ?_, hp, by omega, ?_, ?_, ?_, rfl, row_set _ hr (by omega), hB.setCell (Nat.le_refl _) _⟩, ?_⟩
      · show p + 1 + (D.length + 1) = 65; omega
      · show m / 16 < 16 ^ (p - 56)
        have h := hm.out
        rw [show p + 1 - 56 = (p - 56) + 1 by omega, Nat.pow_succ] at h
        omega
      · show hexN 8 v = hexN (p - 56) (m / 16) ++ hexdig (m % 16) :: D
        rw [hN.out, show p + 1 - 56 = (p - 56) + 1 by omega]
        simp [hexN, hge]
      · congr 1
      · simp [intOf]; omega
/-- strconv.FormatUint(v, 16). -/
theorem formatUint16 (v : Nat) (hv : v < 4294967296) (w : World) (hG : Glob w) :
    Calls Tryz.prog 128 #[.int .u64 v, .int .i64 16] w fun e w' => e = .returned (.string ⟨(hexN 8 v).toArray⟩) ∧ Below w.heap.size w w' := by
  go_enter Tryz.func128, Tryz.ntmps128
  go_wp2_with (first | (go_at_call 260; refine (bits_any v hv _ (by exact hG)).mono ?_; rintro e w' ⟨rfl, hb⟩) | go_in)
  go_ret
  exact ⟨rfl, hb⟩
end Go.Proofs.YtmjojlacpgdomaaGreatDoor
