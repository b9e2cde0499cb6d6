import Derived.Test.YtmjojlacpgdomaaGreatDoorAparse
/-! strconv.ParseUint to the bases 10 and 16. -/
namespace Go.Proofs.YtmjojlacpgdomaaGreatDoor
set_option linter.unusedSimpArgs false
set_option linter.unusedVariables false
open Go Go.RowKit
def puV (M : Nat) : Lib.NumEnd Nat → Nat
  | .ok n => n
  | .range => M
  | _ => 0
def puOk : Lib.NumEnd Nat → Bool
  | .ok _ => true
  | _ => false
def puErr (o : Lib.NumEnd Nat) (er : Value) : Prop := (puOk o = true ∧ er = .nilIface) ∨ (puOk o = false ∧ ∃ N, er = .iface 311 (.pointer (some ⟨N, 0, none⟩)))
def hexNum (M : Nat) (l : List UInt8) : Lib.NumEnd Nat := match parse16 M l with
  | some (some n) => .ok n
  | some none => .range
  | none => Lib.NumEnd.syntax
theorem syn_cell {w : World} (h : Glob w) : ∃ ev, w.cell? ⟨4, 0, none⟩ = some ev ∧ (ev = .nilIface ∨ ∃ te pe, ev = .iface te pe) :=
  let ⟨tp, p, e⟩ := h.syn; ⟨.iface tp p, by have h0 := World.var?_cell (g := 4) (by kernel_rfl) e 0; simpa using h0, Or.inr ⟨tp, p, rfl⟩⟩
theorem rng_cell {w : World} (h : Glob w) : ∃ ev, w.cell? ⟨5, 0, none⟩ = some ev ∧ (ev = .nilIface ∨ ∃ te pe, ev = .iface te pe) :=
  let ⟨tp, p, e⟩ := h.rng; ⟨.iface tp p, by have h0 := World.var?_cell (g := 5) (by kernel_rfl) e 0; simpa using h0, Or.inr ⟨tp, p, rfl⟩⟩
set_option maxRecDepth 100000 in
set_option maxHeartbeats 4000000 in
theorem in16_32e (w : World) :
    Calls Tryz.prog 262 #[.string ⟨#[]⟩, .int .i64 16, .int .i64 32] w fun e w' => e = .returned (.tuple #[.int .u64 0, .iface 309 (.int .i64 2)]) ∧ w = w' := by
  go_enter Tryz.func262, Tryz.ntmps262
  go_wp2
  go_ret2
  exact ⟨rfl, rfl⟩
theorem in16_32_any (s : ByteArray) (hl : s.size ≤ 140737488351232) (w : World) :
    Calls Tryz.prog 262 #[.string s, .int .i64 16, .int .i64 32] w fun e w' => e = .returned (res16 4294967295 (parse16 4294967295 s.data.toList)) ∧ Below w.heap.size w w' := by
  by_cases hs : s.toList.isEmpty = false
  · exact in16_32 s hs hl w
  · have h : s = ⟨#[]⟩ := by
      have : s.toList = [] := by simpa using hs
      rw [Lib.toList_data] at this
      obtain ⟨⟨l⟩⟩ := s
      simp at this
      rw [this]
    subst h
    refine (in16_32e w).mono ?_
    rintro e w' ⟨rfl, rfl⟩
    exact ⟨rfl, Below.refl _ _⟩
set_option maxRecDepth 100000 in
set_option maxHeartbeats 4000000 in
theorem pu16_32 (s : ByteArray) (hl : s.size ≤ 140737488351232) (w : World) (hG : Glob w) :
    Calls Tryz.prog 217 #[.string s, .int .i64 16, .int .i64 32] w fun e w' => (∃ er, e = .returned (.tuple #[.int .u64 (puV 4294967295 (hexNum 4294967295 s.data.toList)), er]) ∧ puErr (hexNum 4294967295 s.data.toList) er) ∧ Below w.heap.size w w' := by
  have hc := in16_32_any s hl w
  unfold hexNum
  generalize parse16 4294967295 s.data.toList = o at hc
  rcases o with _ | _ | n
  · simp only [res16] at hc
    go_enter Tryz.func217, Tryz.ntmps217
    go_wp2_with (go_at_call 262; refine hc.mono ?_; rintro e w1 ⟨rfl, hb⟩; have hg := hG.below hb; obtain ⟨ev, hv, hev⟩ := syn_cell hg)
    go_wp2_with (go_at_call 263; refine (Tryz.strconv_toError_syntax _ s _ _ ev w1 (by omega) hv hev).mono ?_; rintro e w2 ⟨N, rfl, hN, _, hb2⟩; have hz := hb.size)
    go_ret2
    exact ⟨⟨_, rfl, Or.inr ⟨rfl, N, rfl⟩⟩, hb.trans (hb2.mono hz)⟩
  · simp only [res16] at hc
    go_enter Tryz.func217, Tryz.ntmps217
    go_wp2_with (go_at_call 262; refine hc.mono ?_; rintro e w1 ⟨rfl, hb⟩; have hg := hG.below hb; obtain ⟨ev, hv, hev⟩ := rng_cell hg)
    go_wp2_with (go_at_call 263; refine (Tryz.strconv_toError_range _ s _ _ ev w1 (by omega) hv hev).mono ?_; rintro e w2 ⟨N, rfl, hN, _, hb2⟩; have hz := hb.size)
    go_ret2
    exact ⟨⟨_, rfl, Or.inr ⟨rfl, N, rfl⟩⟩, hb.trans (hb2.mono hz)⟩
  · simp only [res16] at hc
    go_enter Tryz.func217, Tryz.ntmps217
    go_wp2_with (go_at_call 262; refine hc.mono ?_; rintro e w1 ⟨rfl, hb⟩)
    go_ret2
    exact ⟨⟨_, rfl, Or.inl ⟨rfl, rfl⟩⟩, hb⟩
theorem pu10_32 (s : ByteArray) (hl : s.size ≤ 140737488351232) (w : World) (hG : Glob w) :
    Calls Tryz.prog 217 #[.string s, .int .i64 10, .int .i64 32] w fun e w' => (∃ er, e = .returned (.tuple #[.int .u64 (puV 4294967295 (Lib.parseUintB 32 s.data.toList)), er]) ∧ puErr (Lib.parseUintB 32 s.data.toList) er) ∧ Below w.heap.size w w' := by
  rcases h : Lib.parseUintB 32 s.data.toList with u | _ | _
  ·
    refine (Tryz.strconv_ParseUint_10_at32_ok s (by omega) u h w).mono ?_
    rintro e w' ⟨rfl, hw⟩
    refine ⟨⟨_, rfl, Or.inl ⟨rfl, rfl⟩⟩, ?_⟩
    rcases hw with rfl | rfl
    · exact Below.refl _ _
    · exact Lib.bytesWorld_below w 5 s
  ·
    obtain ⟨tp, p, hv⟩ := hG.syn
    refine (Tryz.strconv_ParseUint_10_at32_syntax_var s (by omega) h tp p w hv).mono ?_
    rintro e w' ⟨N, rfl, _, _, hb⟩
    exact ⟨⟨_, rfl, Or.inr ⟨rfl, N, rfl⟩⟩, hb⟩
  ·
    obtain ⟨tp, p, hv⟩ := hG.rng
    refine (Tryz.strconv_ParseUint_10_at32_range_var s (by omega) h tp p w hv).mono ?_
    rintro e w' ⟨N, rfl, _, _, hb⟩
    exact ⟨⟨_, rfl, Or.inr ⟨rfl, N, rfl⟩⟩, hb⟩
theorem pu10_16 (s : ByteArray) (hl : s.size ≤ 140737488351232) (w : World) (hG : Glob w) :
    Calls Tryz.prog 217 #[.string s, .int .i64 10, .int .i64 16] w fun e w' => (∃ er, e = .returned (.tuple #[.int .u64 (puV 65535 (Lib.parseUintB 16 s.data.toList)), er]) ∧ puErr (Lib.parseUintB 16 s.data.toList) er) ∧ Below w.heap.size w w' := by
  rcases h : Lib.parseUintB 16 s.data.toList with u | _ | _
  ·
    refine (Tryz.strconv_ParseUint_10_at16_ok s (by omega) u h w).mono ?_
    rintro e w' ⟨rfl, hw⟩
    refine ⟨⟨_, rfl, Or.inl ⟨rfl, rfl⟩⟩, ?_⟩
    rcases hw with rfl | rfl
    · exact Below.refl _ _
    · exact Lib.bytesWorld_below w 5 s
  ·
    obtain ⟨tp, p, hv⟩ := hG.syn
    refine (Tryz.strconv_ParseUint_10_at16_syntax_var s (by omega) h tp p w hv).mono ?_
    rintro e w' ⟨N, rfl, _, _, hb⟩
    exact ⟨⟨_, rfl, Or.inr ⟨rfl, N, rfl⟩⟩, hb⟩
  ·
    obtain ⟨tp, p, hv⟩ := hG.rng
    refine (Tryz.strconv_ParseUint_10_at16_range_var s (by omega) h tp p w hv).mono ?_
    rintro e w' ⟨N, rfl, _, _, hb⟩
    exact ⟨⟨_, rfl, Or.inr ⟨rfl, N, rfl⟩⟩, hb⟩
end Go.Proofs.YtmjojlacpgdomaaGreatDoor
