import Derived.Test.YtmjojlacpgdomaaGreatDoorBprog
import Derived.Laws.AppendOwn
import Derived.OwnWalk
/-! Words that the call itself has laid: joined, appended to. -/
namespace Go.Proofs.YtmjojlacpgdomaaGreatDoor
set_option linter.unusedSimpArgs false
set_option linter.unusedVariables false
open Go Go.RowKit
theorem dec_len (n : Nat) : (Lib.decDigits n).length ≤ n + 1 := by
  induction n using Nat.strongRecOn with
  | _ n ih =>
    rw [Lib.decDigits]
    split
    · simp
    · have := ih (n / 10) (by omega)
      simp; omega
theorem hex_len : ∀ (f v : Nat), (hexN f v).length ≤ f
  | 0, _ => Nat.le_refl _
  | f + 1, v => by
    unfold hexN
    split
    · simp
    · have := hex_len f (v / 16)
      simp; omega
theorem own_shape {w : World} {base n : Nat} {v : Value} {xs : List Value} (h : w.ownsRow base 9 1 v n xs) (hn : n ≠ 0) :
    ∃ g cap, v = .slice (some ⟨g, 0, none⟩) n cap ∧ base ≤ g ∧ g < w.heap.size ∧ n ≤ cap ∧ cap ≤ maxLen ∧ ∀ j x, xs[j]? = some x → w.cell? ⟨g, 0 + j, none⟩ = some x := by
  obtain ⟨hl, hc⟩ := h
  rcases hc with ⟨_, h0⟩ | ⟨g, cap, cur, rfl, hb, hg, hnc, hcm, hcs, ht⟩
  · exact (hn h0).elim
  · refine ⟨g, cap, rfl, hb, (Array.getElem?_eq_some_iff.1 hg).1, hnc, hcm, fun j x hj => ?_⟩
    rw [← ht, List.getElem?_take] at hj
    split at hj
    · simp [World.cell?, hg]
      simpa using hj
    · cases hj
/-- strings.Join of words that the call has laid. -/
theorem join_own (w : World) (base : Nat) (v : Value) (n : Nat) (c : UInt8) (ws : List (List UInt8)) (hn : n = ws.length) (hown : w.ownsRow base 9 1 v n (ws.map str)) (hsmall : n ≤ 1000) (hlen : (Lib.join ws [c]).length ≤ 140737488355328) :
    Calls Tryz.prog 55 #[v, .string ⟨#[c]⟩] w fun e w' => e = .returned (str (Lib.join ws [c])) ∧ Below w.heap.size w w' := by
  subst hn
  by_cases h0 : ws = []
  · subst h0
    rcases hown.2 with ⟨rfl, _⟩ | ⟨g, cap, cur, rfl, _⟩
    all_goals
      refine (Tryz.strings_Join_none _ _ _ w).mono ?_
      rintro e w' ⟨rfl, rfl⟩
      exact ⟨rfl, Below.refl _ _⟩
  · obtain ⟨g, cap, rfl, hb, hg, hnc, hcm, hx⟩ := own_shape hown (by simpa using h0)
    have e1 : (ws.map mk).map (·.data.toList) = ws := by
      rw [List.map_map]
      have : ((fun x : ByteArray => x.data.toList) ∘ mk) = id := by funext l; exact mk_data l
      rw [this, List.map_id]
    have := Tryz.strings_Join g 0 cap (ws.map mk) ⟨#[c]⟩ w (fun j x hj => hx j (.string x) (by
      rw [List.getElem?_map] at hj ⊢
      cases hw : ws[j]? with
      | none => simp [hw] at hj
      | some y => simp [hw] at hj ⊢; subst hj; rfl)) hg (by simp; omega) (by simpa using hnc) (by rw [e1]; exact hlen)
    rw [e1] at this
    simpa [str] using this
end Go.Proofs.YtmjojlacpgdomaaGreatDoor
