import Derived.Test.YtmjojlacpgdomaaGreatDoorBright
import Derived.LoopTactic
/-! slices.IndexFunc, ContainsFunc over instructions; prog.Right. -/
namespace Go.Proofs.YtmjojlacpgdomaaGreatDoor
set_option linter.unusedSimpArgs false
set_option linter.unusedVariables false
open Go Go.RowKit
def idxI (p : Ins → Bool) (l : List Ins) : Int := if l.findIdx p < l.length then (l.findIdx p : Nat) else -1
theorem idxI_hit {p : Ins → Bool} {l : List Ins} {k : Nat} {x : Ins} (hx : l[k]? = some x) (hp : p x = true) (hno : ∀ j y, j < k → l[j]? = some y → p y = false) : idxI p l = k := by
  have hk : k < l.length := (List.getElem?_eq_some_iff.1 hx).1
  have hxe : l[k] = x := (List.getElem?_eq_some_iff.1 hx).2
  have h1 : l.findIdx p = k := by
    rw [List.findIdx_eq hk]
    refine ⟨by rw [hxe]; exact hp, fun j hj => ?_⟩
    exact hno j _ hj (List.getElem?_eq_getElem (by omega))
  unfold idxI
  rw [h1, if_pos hk]
theorem idxI_miss {p : Ins → Bool} {l : List Ins} (hno : ∀ j y, j < l.length → l[j]? = some y → p y = false) : idxI p l = -1 := by
  unfold idxI
  rw [if_neg]
  rw [List.findIdx_lt_length]
  rintro ⟨x, hx, hp⟩
  obtain ⟨j, hj, rfl⟩ := List.getElem_of_mem hx
  rw [hno j _ hj (List.getElem?_eq_getElem hj)] at hp
  cases hp
set_option maxRecDepth 100000 in
set_option maxHeartbeats 1000000 in
theorem idx_44 (l : List Ins) (v : Value) (bq n c : Nat) (a : Option Addr) (w : World) (hS : SlI w v l) (hf : ∀ x ∈ l, x.Fit) (hq : w.cell? ⟨bq, 0, none⟩ = some (.slice a n c)) (hbq : bq < w.heap.size) (hlen : l.length ≤ 1000000) :
    Calls Tryz.prog 57 #[v, .func (.func 44) #[] #[.pointer (some ⟨bq, 0, none⟩)]] w fun e w' => e = .returned (.int .i64 (idxI (badI n) l)) ∧ Below w.heap.size w w' := by
  obtain ⟨sa, sc, rfl, hl, hx⟩ := hS
  obtain ⟨r, hr⟩ : ∃ r, r = idxI (badI n) l := ⟨_, rfl⟩
  rw [← hr]
  have Hr := Lib.hid hr
  clear hr
  go_enter Tryz.func57, Tryz.ntmps57
  go_wp2
  go_loopw [8] (fun t wr => ∃ k : Nat, k ≤ l.length ∧ t = .int .i64 k ∧ (∀ j y, j < k → l[j]? = some y → badI n y = false) ∧ Below w.heap.size w wr) (fun t _ => l.length - (intOf t).toNat)
  case atStart => exact ⟨0, Nat.zero_le _, rfl, fun j y hj => by omega, Below.refl _ _⟩
  case round =>
    obtain ⟨k, hk, rfl, hno, hB⟩ := hrel
    have Hno := Lib.hid hno
    clear hno
    by_cases hlt : k < l.length
    · have hne : l ≠ [] := by rintro rfl; simp at hlt
      obtain ⟨b, o, rfl, hbl, hc⟩ := hx hne
      have Hxk := Lib.hid (List.getElem?_eq_getElem hlt)
      have hcx := (hc k _ Hxk.out).below hB hbl
      generalize l[k] = x at Hxk hcx
      have hfx : x.Fit := hf x (List.mem_of_getElem? Hxk.out)
      have hqr := (hB.cell (p := ⟨bq, 0, none⟩) hbq).trans hq
      have hbr : bq < wr.heap.size := Nat.lt_of_lt_of_le hbq hB.size
      have Hc := Lib.hid (bad44 x hfx bq n c a wr hqr hbr)
      clear hx hc hfx
      cases hp : badI n x with
      | true =>
        have Hp := Lib.hid hp
        have Hc' := Hc.out
        rw [hp] at Hc'
        have Hc2 := Lib.hid Hc'
        clear hp Hc Hc'
        go_wp2_with (first | ((with_reducible refine wpl_load 33 _ rfl ?_ b (o + k * 18) ?_ _ _ hcx Tryz.underlying33 rfl ?_ ?_); (· rfl); (· rfl); (· rfl)) | (go_at_call 44; (with_reducible refine Hc2.out.mono ?_); rintro e w1 ⟨rfl, hb1⟩))
        go_ret
        exact ⟨by rw [Hr.out, idxI_hit Hxk.out Hp.out Hno.out]; rfl, hB.trans (hb1.mono hB.size)⟩
      | false =>
        have Hp := Lib.hid hp
        have Hc' := Hc.out
        rw [hp] at Hc'
        have Hc2 := Lib.hid Hc'
        clear hp Hc Hc'
        go_wp2_with (first | ((with_reducible refine wpl_load 33 _ rfl ?_ b (o + k * 18) ?_ _ _ hcx Tryz.underlying33 rfl ?_ ?_); (· rfl); (· rfl); (· rfl)) | (go_at_call 44; (with_reducible refine Hc2.out.mono ?_); rintro e w1 ⟨rfl, hb1⟩))
        go_roundw
        case rel => exact ⟨k + 1, by omega, by go_num, fun j y hj hy => by
          rcases Nat.lt_succ_iff_lt_or_eq.1 hj with h | rfl
          · exact Hno.out j y h hy
          · rw [Hxk.out] at hy; cases hy; exact Hp.out, hB.trans (hb1.mono hB.size)⟩
        case measure => simp [intOf]; omega
    · go_wp2
      go_ret
      exact ⟨by rw [Hr.out, idxI_miss (fun j y hj hy => Hno.out j y (by omega) hy)]; rfl, hB⟩
set_option maxRecDepth 100000 in
set_option maxHeartbeats 1000000 in
theorem idx_58 (l : List Ins) (v : Value) (bq n c : Nat) (a : Option Addr) (w : World) (hS : SlI w v l) (hq : w.cell? ⟨bq, 0, none⟩ = some (.slice a n c)) (hbq : bq < w.heap.size) (hlen : l.length ≤ 1000000) :
    Calls Tryz.prog 57 #[v, .func (.func 58) #[] #[.pointer (some ⟨bq, 0, none⟩)]] w fun e w' => e = .returned (.int .i64 (idxI (farI n) l)) ∧ Below w.heap.size w w' := by
  obtain ⟨sa, sc, rfl, hl, hx⟩ := hS
  obtain ⟨r, hr⟩ : ∃ r, r = idxI (farI n) l := ⟨_, rfl⟩
  rw [← hr]
  have Hr := Lib.hid hr
  clear hr
  go_enter Tryz.func57, Tryz.ntmps57
  go_wp2
  go_loopw [8] (fun t wr => ∃ k : Nat, k ≤ l.length ∧ t = .int .i64 k ∧ (∀ j y, j < k → l[j]? = some y → farI n y = false) ∧ Below w.heap.size w wr) (fun t _ => l.length - (intOf t).toNat)
  case atStart => exact ⟨0, Nat.zero_le _, rfl, fun j y hj => by omega, Below.refl _ _⟩
  case round =>
    obtain ⟨k, hk, rfl, hno, hB⟩ := hrel
    have Hno := Lib.hid hno
    clear hno
    by_cases hlt : k < l.length
    · have hne : l ≠ [] := by rintro rfl; simp at hlt
      obtain ⟨b, o, rfl, hbl, hc⟩ := hx hne
      have Hxk := Lib.hid (List.getElem?_eq_getElem hlt)
      have hcx := (hc k _ Hxk.out).below hB hbl
      generalize l[k] = x at Hxk hcx
      have hqr := (hB.cell (p := ⟨bq, 0, none⟩) hbq).trans hq
      have hbr : bq < wr.heap.size := Nat.lt_of_lt_of_le hbq hB.size
      have Hc := Lib.hid (far58 x bq n c a wr hqr hbr)
      clear hx hc
      cases hp : farI n x with
      | true =>
        have Hp := Lib.hid hp
        have Hc' := Hc.out
        rw [hp] at Hc'
        have Hc2 := Lib.hid Hc'
        clear hp Hc Hc'
        go_wp2_with (first | ((with_reducible refine wpl_load 33 _ rfl ?_ b (o + k * 18) ?_ _ _ hcx Tryz.underlying33 rfl ?_ ?_); (· rfl); (· rfl); (· rfl)) | (go_at_call 58; (with_reducible refine Hc2.out.mono ?_); rintro e w1 ⟨rfl, hb1⟩))
        go_ret
        exact ⟨by rw [Hr.out, idxI_hit Hxk.out Hp.out Hno.out]; rfl, hB.trans (hb1.mono hB.size)⟩
      | false =>
        have Hp := Lib.hid hp
        have Hc' := Hc.out
        rw [hp] at Hc'
        have Hc2 := Lib.hid Hc'
        clear hp Hc Hc'
        go_wp2_with (first | ((with_reducible refine wpl_load 33 _ rfl ?_ b (o + k * 18) ?_ _ _ hcx Tryz.underlying33 rfl ?_ ?_); (· rfl); (· rfl); (· rfl)) | (go_at_call 58; (with_reducible refine Hc2.out.mono ?_); rintro e w1 ⟨rfl, hb1⟩))
        go_roundw
        case rel => exact ⟨k + 1, by omega, by go_num, fun j y hj hy => by
          rcases Nat.lt_succ_iff_lt_or_eq.1 hj with h | rfl
          · exact Hno.out j y h hy
          · rw [Hxk.out] at hy; cases hy; exact Hp.out, hB.trans (hb1.mono hB.size)⟩
        case measure => simp [intOf]; omega
    · go_wp2
      go_ret
      exact ⟨by rw [Hr.out, idxI_miss (fun j y hj hy => Hno.out j y (by omega) hy)]; rfl, hB⟩
set_option maxRecDepth 100000 in
set_option maxHeartbeats 1000000 in
theorem contains_44 (l : List Ins) (v : Value) (bq n c : Nat) (a : Option Addr) (w : World) (hS : SlI w v l) (hf : ∀ x ∈ l, x.Fit) (hq : w.cell? ⟨bq, 0, none⟩ = some (.slice a n c)) (hbq : bq < w.heap.size) (hlen : l.length ≤ 1000000) :
    Calls Tryz.prog 43 #[v, .func (.func 44) #[] #[.pointer (some ⟨bq, 0, none⟩)]] w fun e w' => e = .returned (.bool (decide (0 ≤ idxI (badI n) l))) ∧ Below w.heap.size w w' := by
  have hc := idx_44 l v bq n c a w hS hf hq hbq hlen
  generalize idxI (badI n) l = r at hc ⊢
  go_enter Tryz.func43, Tryz.ntmps43
  go_wp2_with (go_at_call 57; (with_reducible refine hc.mono ?_); rintro e w1 ⟨rfl, hb1⟩)
  go_ret
  exact ⟨rfl, hb1⟩
theorem idxI_all (l : List Ins) : (decide (l.length ≤ 64) && !decide (0 ≤ idxI (badI l.length) l)) = progRight l := by
  unfold progRight
  congr 1
  unfold idxI
  by_cases h : l.findIdx (badI l.length) < l.length
  · rw [if_pos h]
    rw [List.findIdx_lt_length] at h
    obtain ⟨x, hx, hb⟩ := h
    have : (l.all fun x => insRight x && decide (x.to ≤ (l.length : Int))) = false := by
      rw [List.all_eq_false]
      refine ⟨x, hx, ?_⟩
      simp [badI] at hb
      intro e
      simp at e
      rcases hb with hb | hb
      · rw [hb] at e; simp at e
      · omega
    rw [this]
    simp
  · rw [if_neg h]
    rw [List.findIdx_lt_length] at h
    have : (l.all fun x => insRight x && decide (x.to ≤ (l.length : Int))) = true := by
      rw [List.all_eq_true]
      intro x hx
      have hb : badI l.length x = false := by
        cases hb : badI l.length x with
        | false => rfl
        | true => exact (h ⟨x, hx, hb⟩).elim
      simp [badI] at hb
      simp [hb]
    rw [this]
    rfl
set_option maxRecDepth 100000 in
set_option maxHeartbeats 1000000 in
theorem right_any' (l : List Ins) (v : Value) (w : World) (hS : SlI w v l) (hf : ∀ x ∈ l, x.Fit) (hlen : l.length ≤ 9223372036854775807) :
    Calls Tryz.prog 14 #[v] w fun e w' => e = .returned (.bool (progRight l)) ∧ Below w.heap.size w w' := by
  rw [← idxI_all]
  have hmf : ∀ (fn : Fn) (first cap : Array Value) (w : World), (Instr.makeFunc fn first cap).run Tryz.prog w = .ok (.func fn first cap) w := fun _ _ _ _ => rfl
  have hS' := hS
  obtain ⟨sa, sc, rfl, hl, hx⟩ := hS
  have hc0 := fun h : l.length ≤ 1000000 => contains_44 l _ w.heap.size l.length sc sa (w.alloc (.cells #[.slice sa l.length sc] 22)) (hS'.below ((Below.refl _ _).alloc (Nat.le_refl _) _)) hf (by simp) (by simp) h
  generalize idxI (badI l.length) l = r at hc0 ⊢
  clear hx hS' hf
  by_cases h64 : l.length ≤ 64
  · have hd : decide (l.length ≤ 64) = true := by simpa using h64
    have hc := hc0 (by omega)
    clear hc0
    by_cases h0 : 0 ≤ r
    · have h0' : decide (0 ≤ r) = true := by simpa using h0
      rw [h0'] at hc
      go_enter Tryz.func14, Tryz.ntmps14
      go_wp2_with (go_at_call 43; (with_reducible refine hc.mono ?_); rintro e w1 ⟨rfl, hb1⟩)
      go_ret
      exact ⟨by simp [h0], ((Below.refl _ _).alloc (Nat.le_refl _) _).trans (hb1.mono (by simp))⟩
    · have h0' : decide (0 ≤ r) = false := by simpa using h0
      rw [h0'] at hc
      go_enter Tryz.func14, Tryz.ntmps14
      go_wp2_with (go_at_call 43; (with_reducible refine hc.mono ?_); rintro e w1 ⟨rfl, hb1⟩)
      go_ret
      exact ⟨by simp [h0, h64], ((Below.refl _ _).alloc (Nat.le_refl _) _).trans (hb1.mono (by simp))⟩
  · have hd : decide (l.length ≤ 64) = false := by simpa using h64
    clear hc0
    go_enter Tryz.func14, Tryz.ntmps14
    go_wp2
    go_ret
    exact ⟨by simp [h64], (Below.refl _ _).alloc (Nat.le_refl _) _⟩
end Go.Proofs.YtmjojlacpgdomaaGreatDoor
