import Derived.Test.YtmjojlacpgdomaaGreatDoorAglob
import Derived.Lib.ConvBytes
import Derived.Lib.SmallJoins
/-! internal/strconv.ParseUint at base 16. -/
namespace Go.Proofs.YtmjojlacpgdomaaGreatDoor
set_option linter.unusedSimpArgs false
set_option linter.unusedVariables false
open Go Go.RowKit
/-- A digit to the base 16. -/
def digOf (c : UInt8) : Option Nat :=
  if 48 ≤ c.toNat ∧ c.toNat ≤ 57 then some (c.toNat - 48)
  else if 97 ≤ c.toNat ∧ c.toNat ≤ 102 then some (c.toNat - 87)
  else if 65 ≤ c.toNat ∧ c.toNat ≤ 70 then some (c.toNat - 55)
  else none
/-- 'some (some n)': the number n; 'some none': too great; 'none': no number. -/
def p16 (max : Nat) : List UInt8 → Nat → Option (Option Nat)
  | [], acc => some (some acc)
  | c :: l, acc => match digOf c with
    | none => none
    | some d => if max < acc * 16 + d then some none else p16 max l (acc * 16 + d)
/-- What the digits say: nothing, if there are none. -/
def parse16 (max : Nat) (l : List UInt8) : Option (Option Nat) := if l = [] then none else p16 max l 0
theorem wrap64 (n : Int) (h₀ : 0 ≤ n) (h₁ : n < 18446744073709551616) : IntKind.u64.wrap n = n := by rw [IntKind.wrap_u64]; omega
def lw (c : Nat) : Int := bits BinOp.or IntKind.u8 (c : Int) 32
theorem lower_any (c : Nat) (w : World) : Calls Tryz.prog 290 #[.int .u8 (c : Int)] w fun e w' => e = .returned (.int .u8 (lw c)) ∧ w = w' :=
  (Tryz.internal_strconv_lower (c : Int) w).mono fun _ _ ⟨he, hw⟩ => ⟨he, hw.symm⟩
theorem lw_all : (List.range 256).all (fun c => (if 97 ≤ c ∧ c ≤ 122 then lw c == (c : Int) else if 65 ≤ c ∧ c ≤ 90 then lw c == (c : Int) + 32 else if 48 ≤ c ∧ c ≤ 57 then true else (decide (lw c < 97) || decide (122 < lw c)))) = true := by kernel_rfl
theorem lw_at (c : Nat) (hc : c < 256) : (if 97 ≤ c ∧ c ≤ 122 then lw c == (c : Int) else if 65 ≤ c ∧ c ≤ 90 then lw c == (c : Int) + 32 else if 48 ≤ c ∧ c ≤ 57 then true else (decide (lw c < 97) || decide (122 < lw c))) = true :=
  List.all_eq_true.1 lw_all c (List.mem_range.2 hc)
def res16 (max : Nat) : Option (Option Nat) → Value
  | some (some n) => .tuple #[.int .u64 n, .nilIface]
  | some none => .tuple #[.int .u64 max, .iface 309 (.int .i64 1)]
  | none => .tuple #[.int .u64 0, .iface 309 (.int .i64 2)]
theorem p16_step {M k acc : Nat} {l : List UInt8} (hk : k < l.length) : p16 M (l.drop k) acc = (match digOf (l.getD k 0) with
    | none => none
    | some d => if M < acc * 16 + d then some none else p16 M (l.drop (k + 1)) (acc * 16 + d)) := by
  rw [List.drop_eq_getElem_cons hk]
  simp only [p16, List.getD_eq_getElem?_getD, List.getElem?_eq_getElem hk, Option.getD_some]
set_option maxRecDepth 100000 in
set_option maxHeartbeats 4000000 in
theorem in16_32 (s : ByteArray) (hs : s.toList.isEmpty = false) (hl : s.size ≤ 140737488351232) (w : World) :
    Calls Tryz.prog 262 #[.string s, .int .i64 16, .int .i64 32] w fun e w' => e = .returned (res16 4294967295 (parse16 4294967295 s.data.toList)) ∧ Below w.heap.size w w' := by
  have hconv := Lib.run_convert_string_bytes (P := Tryz.prog) w 9 106 5 s Tryz.underlying9 Tryz.underlying106 Tryz.underlying5
  have hcell := fun j hj => Lib.bytesWorld_cell w 5 s j hj
  have hB := Joins.below_bytesWorld w.heap.size w 5 s (Nat.le_refl _)
  generalize hW : Lib.bytesWorld w 5 s = W at hconv hcell hB
  clear hW
  have hcell' := Lib.hid hcell
  clear hcell
  have hne : Hid (parse16 4294967295 s.data.toList = p16 4294967295 (s.data.toList.drop 0) 0) := by
    have : s.data.toList ≠ [] := by
      intro h
      have : s.toList = [] := by rw [Lib.toList_data, h]
      simp [this] at hs
    show parse16 _ _ = _
    simp [parse16, this]
  go_enter Tryz.func262, Tryz.ntmps262
  go_wp2
  clear hconv hs
  go_loop [12, 13, 101] (fun z n i => ∃ k acc : Nat, k ≤ s.size ∧ acc ≤ 4294967295 ∧ Hid (parse16 4294967295 s.data.toList = p16 4294967295 (s.data.toList.drop k) acc) ∧ z = .bool false ∧ n = .int .u64 acc ∧ i = .int .i64 k) (fun _ _ i => s.size - (intOf i).toNat)
  case atStart => exact ⟨0, 0, by omega, by omega, hne, rfl, rfl, rfl⟩
  case round =>
    obtain ⟨k, acc, hk, ha, hp, rfl, rfl, rfl⟩ := hrel
    clear hne
    have hsz : Hid (s.data.toList.length = s.size) := Lib.hid (by rw [Array.length_toList]; rfl)
    by_cases hlt : k < s.size
    · have hce := hcell'.out k hlt
      have hst := Lib.hid (p16_step (M := 4294967295) (acc := acc) (show k < s.data.toList.length by rw [hsz.out]; exact hlt))
      have hdd : Hid (∀ d, digOf (s.data.toList.getD k 0) = some d → ¬ 4294967295 < acc * 16 + d → parse16 4294967295 s.data.toList = p16 4294967295 (s.data.toList.drop (k + 1)) (acc * 16 + d)) := Lib.hid (by
        intro d hd hm
        rw [hp.out, hst.out, hd]
        simp [hm])
      have hdb : Hid (∀ d, digOf (s.data.toList.getD k 0) = some d → 4294967295 < acc * 16 + d → parse16 4294967295 s.data.toList = some none) := Lib.hid (by
        intro d hd hm
        rw [hp.out, hst.out, hd]
        simp [hm])
      have hdn : Hid (digOf (s.data.toList.getD k 0) = none → parse16 4294967295 s.data.toList = none) := Lib.hid (by
        intro hd
        rw [hp.out, hst.out, hd])
      generalize s.data.toList.getD k 0 = cb at hce hdd hdb hdn
      clear hp hst hcell' hsz
      have hcb : cb.toNat < 256 := cb.toNat_lt
      have hdef : Hid (∀ P : Option Nat → Prop, P (if 48 ≤ cb.toNat ∧ cb.toNat ≤ 57 then some (cb.toNat - 48) else if 97 ≤ cb.toNat ∧ cb.toNat ≤ 102 then some (cb.toNat - 87) else if 65 ≤ cb.toNat ∧ cb.toNat ≤ 70 then some (cb.toNat - 55) else none) → P (digOf cb)) := Lib.hid (fun P h => h)
      have hlw := Lib.hid (lw_at cb.toNat hcb)
      generalize cb.toNat = c at hce hdef hlw hcb
      by_cases hA : 48 ≤ c ∧ c ≤ 57
      · obtain ⟨hA1, hA2⟩ := hA
        have h95 : ((c : Int) == 95) = false := by simp; omega
        have hd : Hid (digOf cb = some (c - 48)) := Lib.hid (hdef.out (fun o => o = some (c - 48)) (by rw [if_pos ⟨hA1, hA2⟩]))
        clear hlw
        by_cases hb : 4294967295 < acc * 16 + (c - 48)
        · have hfin := Lib.hid (hdb.out _ hd.out hb)
          have hb' : (4294967295 : Int) < (acc : Int) * 16 + ((c : Int) - 48) := by omega
          clear hdd hdb hdn hd hdef hb
          have hq : ¬ (1152921504606846976 : Int) ≤ (acc : Int) := by omega
          have hq1 : IntKind.u64.wrap ((acc : Int) * 16) = (acc : Int) * 16 := wrap64 _ (by omega) (by omega)
          have hq2 : IntKind.u64.wrap ((acc : Int) * 16 + ((c : Int) - 48)) = (acc : Int) * 16 + ((c : Int) - 48) := wrap64 _ (by omega) (by omega)
          have hq3 : ¬ (acc : Int) * 16 + ((c : Int) - 48) < (acc : Int) * 16 := by omega
          have hq4 : (acc : Int) * 16 ≤ (acc : Int) * 16 + ((c : Int) - 48) := by omega
          have hfx : Hid ((acc : Int) * 16 + ((c : Int) - 48) = ((acc * 16 + (c - 48) : Nat) : Int)) := Lib.hid (by omega)
          clear ha
          generalize (acc : Int) = xx at hq hq1 hq2 hq3 hq4 hb' hfx ⊢
          go_wp2_with (go_at_call 290; refine (lower_any _ _).mono ?_; rintro e w' ⟨rfl, rfl⟩)
          go_ret2
          exact ⟨by rw [hfin.out]; rfl, hB⟩
        · have hfin := Lib.hid (hdd.out _ hd.out hb)
          have hb' : (acc : Int) * 16 + ((c : Int) - 48) ≤ (4294967295 : Int) := by omega
          clear hdd hdb hdn hd hdef hb
          have hq : ¬ (1152921504606846976 : Int) ≤ (acc : Int) := by omega
          have hq1 : IntKind.u64.wrap ((acc : Int) * 16) = (acc : Int) * 16 := wrap64 _ (by omega) (by omega)
          have hq2 : IntKind.u64.wrap ((acc : Int) * 16 + ((c : Int) - 48)) = (acc : Int) * 16 + ((c : Int) - 48) := wrap64 _ (by omega) (by omega)
          have hq3 : ¬ (acc : Int) * 16 + ((c : Int) - 48) < (acc : Int) * 16 := by omega
          have hq4 : (acc : Int) * 16 ≤ (acc : Int) * 16 + ((c : Int) - 48) := by omega
          have hfx : Hid ((acc : Int) * 16 + ((c : Int) - 48) = ((acc * 16 + (c - 48) : Nat) : Int)) := Lib.hid (by omega)
          have hfa : Hid (acc * 16 + (c - 48) ≤ 4294967295) := Lib.hid (by omega)
          clear ha
          generalize (acc : Int) = xx at hq hq1 hq2 hq3 hq4 hb' hfx ⊢
          go_wp2_with (go_at_call 290; refine (lower_any _ _).mono ?_; rintro e w' ⟨rfl, rfl⟩)
          go_round
          case rel => exact ⟨k + 1, acc * 16 + (c - 48), by omega, hfa.out, hfin, rfl, by rw [hfx.out], by go_num⟩
          case measure => simp [intOf]; omega
      by_cases hL : 97 ≤ c ∧ c ≤ 122
      · obtain ⟨hL1, hL2⟩ := hL
        have h95 : ((c : Int) == 95) = false := by simp; omega
        have hw : lw c = (c : Int) := by have := hlw.out; rw [if_pos ⟨hL1, hL2⟩] at this; simpa using this
        have hn9 : ¬ (c : Int) ≤ 57 := by omega
        clear hlw
        by_cases hx : c ≤ 102
        · have hd : Hid (digOf cb = some (c - 87)) := Lib.hid (hdef.out (fun o => o = some (c - 87)) (by rw [if_neg (by omega), if_pos ⟨hL1, hx⟩]))
          have hx2 : (c : Int) - 97 + 10 < 16 := by omega
          by_cases hb : 4294967295 < acc * 16 + (c - 87)
          · have hfin := Lib.hid (hdb.out _ hd.out hb)
            have hb' : (4294967295 : Int) < (acc : Int) * 16 + ((c : Int) - 97 + 10) := by omega
            clear hdd hdb hdn hd hdef hb
            have hq : ¬ (1152921504606846976 : Int) ≤ (acc : Int) := by omega
            have hq1 : IntKind.u64.wrap ((acc : Int) * 16) = (acc : Int) * 16 := wrap64 _ (by omega) (by omega)
            have hq2 : IntKind.u64.wrap ((acc : Int) * 16 + ((c : Int) - 97 + 10)) = (acc : Int) * 16 + ((c : Int) - 97 + 10) := wrap64 _ (by omega) (by omega)
            have hq3 : ¬ (acc : Int) * 16 + ((c : Int) - 97 + 10) < (acc : Int) * 16 := by omega
            have hq4 : (acc : Int) * 16 ≤ (acc : Int) * 16 + ((c : Int) - 97 + 10) := by omega
            have hfx : Hid ((acc : Int) * 16 + ((c : Int) - 97 + 10) = ((acc * 16 + (c - 87) : Nat) : Int)) := Lib.hid (by omega)
            clear ha
            generalize (acc : Int) = xx at hq hq1 hq2 hq3 hq4 hb' hfx ⊢
            go_wp2_with (go_at_call 290; refine (lower_any _ _).mono ?_; rintro e w' ⟨rfl, rfl⟩)
            go_ret2
            exact ⟨by rw [hfin.out]; rfl, hB⟩
          · have hfin := Lib.hid (hdd.out _ hd.out hb)
            have hb' : (acc : Int) * 16 + ((c : Int) - 97 + 10) ≤ (4294967295 : Int) := by omega
            clear hdd hdb hdn hd hdef hb
            have hq : ¬ (1152921504606846976 : Int) ≤ (acc : Int) := by omega
            have hq1 : IntKind.u64.wrap ((acc : Int) * 16) = (acc : Int) * 16 := wrap64 _ (by omega) (by omega)
            have hq2 : IntKind.u64.wrap ((acc : Int) * 16 + ((c : Int) - 97 + 10)) = (acc : Int) * 16 + ((c : Int) - 97 + 10) := wrap64 _ (by omega) (by omega)
            have hq3 : ¬ (acc : Int) * 16 + ((c : Int) - 97 + 10) < (acc : Int) * 16 := by omega
            have hq4 : (acc : Int) * 16 ≤ (acc : Int) * 16 + ((c : Int) - 97 + 10) := by omega
            have hfx : Hid ((acc : Int) * 16 + ((c : Int) - 97 + 10) = ((acc * 16 + (c - 87) : Nat) : Int)) := Lib.hid (by omega)
            have hfa : Hid (acc * 16 + (c - 87) ≤ 4294967295) := Lib.hid (by omega)
            clear ha
            generalize (acc : Int) = xx at hq hq1 hq2 hq3 hq4 hb' hfx ⊢
            go_wp2_with (go_at_call 290; refine (lower_any _ _).mono ?_; rintro e w' ⟨rfl, rfl⟩)
            go_round
            case rel => exact ⟨k + 1, acc * 16 + (c - 87), by omega, hfa.out, hfin, rfl, by rw [hfx.out], by go_num⟩
            case measure => simp [intOf]; omega
        · have hd : Hid (digOf cb = none) := Lib.hid (hdef.out (fun o => o = none) (by rw [if_neg (by omega), if_neg (by omega), if_neg (by omega)]))
          have hx2 : 16 ≤ (c : Int) - 97 + 10 := by omega
          have hfin := Lib.hid (hdn.out hd.out)
          clear hdd hdb hdn hd hdef
          go_wp2_with (go_at_call 290; refine (lower_any _ _).mono ?_; rintro e w' ⟨rfl, rfl⟩)
          go_ret2
          exact ⟨by rw [hfin.out]; rfl, hB⟩
      by_cases hU : 65 ≤ c ∧ c ≤ 90
      · obtain ⟨hU1, hU2⟩ := hU
        have h95 : ((c : Int) == 95) = false := by simp; omega
        have hw : lw c = (c : Int) + 32 := by have := hlw.out; rw [if_neg hL, if_pos ⟨hU1, hU2⟩] at this; simpa using this
        have hn9 : ¬ (c : Int) ≤ 57 := by omega
        clear hlw hL
        by_cases hx : c ≤ 70
        · have hd : Hid (digOf cb = some (c - 55)) := Lib.hid (hdef.out (fun o => o = some (c - 55)) (by rw [if_neg (by omega), if_neg (by omega), if_pos ⟨hU1, hx⟩]))
          have hx2 : (c : Int) + 32 - 97 + 10 < 16 := by omega
          by_cases hb : 4294967295 < acc * 16 + (c - 55)
          · have hfin := Lib.hid (hdb.out _ hd.out hb)
            have hb' : (4294967295 : Int) < (acc : Int) * 16 + ((c : Int) + 32 - 97 + 10) := by omega
            clear hdd hdb hdn hd hdef hb
            have hq : ¬ (1152921504606846976 : Int) ≤ (acc : Int) := by omega
            have hq1 : IntKind.u64.wrap ((acc : Int) * 16) = (acc : Int) * 16 := wrap64 _ (by omega) (by omega)
            have hq2 : IntKind.u64.wrap ((acc : Int) * 16 + ((c : Int) + 32 - 97 + 10)) = (acc : Int) * 16 + ((c : Int) + 32 - 97 + 10) := wrap64 _ (by omega) (by omega)
            have hq3 : ¬ (acc : Int) * 16 + ((c : Int) + 32 - 97 + 10) < (acc : Int) * 16 := by omega
            have hq4 : (acc : Int) * 16 ≤ (acc : Int) * 16 + ((c : Int) + 32 - 97 + 10) := by omega
            have hfx : Hid ((acc : Int) * 16 + ((c : Int) + 32 - 97 + 10) = ((acc * 16 + (c - 55) : Nat) : Int)) := Lib.hid (by omega)
            clear ha
            generalize (acc : Int) = xx at hq hq1 hq2 hq3 hq4 hb' hfx ⊢
            go_wp2_with (go_at_call 290; refine (lower_any _ _).mono ?_; rintro e w' ⟨rfl, rfl⟩)
            go_ret2
            exact ⟨by rw [hfin.out]; rfl, hB⟩
          · have hfin := Lib.hid (hdd.out _ hd.out hb)
            have hb' : (acc : Int) * 16 + ((c : Int) + 32 - 97 + 10) ≤ (4294967295 : Int) := by omega
            clear hdd hdb hdn hd hdef hb
            have hq : ¬ (1152921504606846976 : Int) ≤ (acc : Int) := by omega
            have hq1 : IntKind.u64.wrap ((acc : Int) * 16) = (acc : Int) * 16 := wrap64 _ (by omega) (by omega)
            have hq2 : IntKind.u64.wrap ((acc : Int) * 16 + ((c : Int) + 32 - 97 + 10)) = (acc : Int) * 16 + ((c : Int) + 32 - 97 + 10) := wrap64 _ (by omega) (by omega)
            have hq3 : ¬ (acc : Int) * 16 + ((c : Int) + 32 - 97 + 10) < (acc : Int) * 16 := by omega
            have hq4 : (acc : Int) * 16 ≤ (acc : Int) * 16 + ((c : Int) + 32 - 97 + 10) := by omega
            have hfx : Hid ((acc : Int) * 16 + ((c : Int) + 32 - 97 + 10) = ((acc * 16 + (c - 55) : Nat) : Int)) := Lib.hid (by omega)
            have hfa : Hid (acc * 16 + (c - 55) ≤ 4294967295) := Lib.hid (by omega)
            clear ha
            generalize (acc : Int) = xx at hq hq1 hq2 hq3 hq4 hb' hfx ⊢
            go_wp2_with (go_at_call 290; refine (lower_any _ _).mono ?_; rintro e w' ⟨rfl, rfl⟩)
            go_round
            case rel => exact ⟨k + 1, acc * 16 + (c - 55), by omega, hfa.out, hfin, rfl, by rw [hfx.out], by go_num⟩
            case measure => simp [intOf]; omega
        · have hd : Hid (digOf cb = none) := Lib.hid (hdef.out (fun o => o = none) (by rw [if_neg (by omega), if_neg (by omega), if_neg (by omega)]))
          have hx2 : 16 ≤ (c : Int) + 32 - 97 + 10 := by omega
          have hfin := Lib.hid (hdn.out hd.out)
          clear hdd hdb hdn hd hdef
          go_wp2_with (go_at_call 290; refine (lower_any _ _).mono ?_; rintro e w' ⟨rfl, rfl⟩)
          go_ret2
          exact ⟨by rw [hfin.out]; rfl, hB⟩
      · have hd : Hid (digOf cb = none) := Lib.hid (hdef.out (fun o => o = none) (by rw [if_neg hA, if_neg (by omega), if_neg (by omega)]))
        have hw := hlw.out
        rw [if_neg hL, if_neg hU, if_neg hA] at hw
        have hw' : lw c < 97 ∨ 122 < lw c := by simpa using hw
        clear hw hlw hL hU
        have hfin := Lib.hid (hdn.out hd.out)
        clear hdd hdb hdn hd hdef
        by_cases h9 : c < 48
        · have hA1 : ¬ (48 : Int) ≤ (c : Int) := by omega
          have h95 : ((c : Int) == 95) = false := by simp; omega
          clear hA
          rcases hw' with hz | hz
          · have hz' : ¬ (97 : Int) ≤ lw c := by omega
            go_wp2_with (go_at_call 290; refine (lower_any _ _).mono ?_; rintro e w' ⟨rfl, rfl⟩)
            go_ret2
            exact ⟨by rw [hfin.out]; rfl, hB⟩
          · have hz' : ¬ lw c ≤ (122 : Int) := by omega
            have hz1 : (97 : Int) ≤ lw c := by omega
            go_wp2_with (go_at_call 290; refine (lower_any _ _).mono ?_; rintro e w' ⟨rfl, rfl⟩)
            go_ret2
            exact ⟨by rw [hfin.out]; rfl, hB⟩
        · have hA1 : (48 : Int) ≤ (c : Int) := by omega
          have hA2 : ¬ (c : Int) ≤ 57 := by omega
          clear hA
          by_cases hu : c = 95
          · have h95 : ((c : Int) == 95) = true := by simp; omega
            rcases hw' with hz | hz
            · have hz' : ¬ (97 : Int) ≤ lw c := by omega
              go_wp2_with (go_at_call 290; refine (lower_any _ _).mono ?_; rintro e w' ⟨rfl, rfl⟩)
              go_ret2
              exact ⟨by rw [hfin.out]; rfl, hB⟩
            · have hz' : ¬ lw c ≤ (122 : Int) := by omega
              have hz1 : (97 : Int) ≤ lw c := by omega
              go_wp2_with (go_at_call 290; refine (lower_any _ _).mono ?_; rintro e w' ⟨rfl, rfl⟩)
              go_ret2
              exact ⟨by rw [hfin.out]; rfl, hB⟩
          · have h95 : ((c : Int) == 95) = false := by simp; omega
            rcases hw' with hz | hz
            · have hz' : ¬ (97 : Int) ≤ lw c := by omega
              go_wp2_with (go_at_call 290; refine (lower_any _ _).mono ?_; rintro e w' ⟨rfl, rfl⟩)
              go_ret2
              exact ⟨by rw [hfin.out]; rfl, hB⟩
            · have hz' : ¬ lw c ≤ (122 : Int) := by omega
              have hz1 : (97 : Int) ≤ lw c := by omega
              go_wp2_with (go_at_call 290; refine (lower_any _ _).mono ?_; rintro e w' ⟨rfl, rfl⟩)
              go_ret2
              exact ⟨by rw [hfin.out]; rfl, hB⟩
    · have hks : k = s.size := by omega
      have hfin : Hid (parse16 4294967295 s.data.toList = some (some acc)) := Lib.hid (by
        rw [hp.out, hks, ← hsz.out, List.drop_length]; rfl)
      clear hp hcell' hsz
      subst hks
      go_wp2
      go_ret2
      exact ⟨by rw [hfin.out]; rfl, hB⟩
end Go.Proofs.YtmjojlacpgdomaaGreatDoor
