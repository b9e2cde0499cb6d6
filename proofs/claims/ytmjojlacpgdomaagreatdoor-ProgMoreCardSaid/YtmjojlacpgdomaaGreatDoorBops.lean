import Derived.Test.YtmjojlacpgdomaaGreatDoorBscan0
import Derived.Scope
import Derived.WalkMore
/-! Words of Ops, the map that holds them; a scope that is left forward. -/
namespace Go.Proofs.YtmjojlacpgdomaaGreatDoor
set_option linter.unusedSimpArgs false
set_option linter.unusedVariables false
open Go Go.RowKit Go.ChangeMaps
/-- By a goto to a label: what stands behind it goes through; else as Q. -/
def Exit.fwd (P : Program) (c : Code) (Q : Exit → Act → World → Prop) : Exit → Act → World → Prop
  | .goto l, a, w => ∃ rest, findLabel c l = some rest ∧ rest.wp P (Exit.noGoto Q) a w
  | e, a, w => Q e a w
section
variable {P : Program} {a : Act} {w : World} {Q : Exit → Act → World → Prop} {c : Code}
theorem fwd_normal : Exit.fwd P c Q .normal a w = Q .normal a w := rfl
theorem fwd_exit (id : Nat) : Exit.fwd P c Q (.exit id) a w = Q (.exit id) a w := rfl
theorem fwd_ret : Exit.fwd P c Q .ret a w = Q .ret a w := rfl
theorem fwd_panic (ch : List PanicEntry) : Exit.fwd P c Q (.panic ch) a w = Q (.panic ch) a w := rfl
theorem wp_scope_fwd (h : c.wp P (Exit.fwd P c Q) a w) : (Code.scope c).wp P Q a w := by
  intro b k cs
  obtain ⟨e, a₁, w₁, hq, harr⟩ := h b (.inScope c :: k) cs
  cases e with
  | normal => exact ⟨.normal, a₁, w₁, hq, .head step_scope (Steps.trans harr (.one step_inScope))⟩
  | exit id => exact ⟨.exit id, a₁, w₁, hq, fun k' hk => .head step_scope (harr k' (by simp [exitTo, hk]))⟩
  | goto l =>
    obtain ⟨rest, hf, hr⟩ := hq
    have hg : gotoIn l (.inScope c :: k) = some (.code rest :: .inScope c :: k) := by simp [gotoIn, hf]
    obtain ⟨e₂, a₂, w₂, hq₂, harr₂⟩ := hr b (.inScope c :: k) cs
    have hs := harr _ hg
    cases e₂ with
    | normal => exact ⟨.normal, a₂, w₂, hq₂, .head step_scope (Steps.trans hs (Steps.trans harr₂ (.one step_inScope)))⟩
    | exit id => exact ⟨.exit id, a₂, w₂, hq₂, fun k' hk => .head step_scope (Steps.trans hs (harr₂ k' (by simp [exitTo, hk])))⟩
    | goto l => exact hq₂.elim
    | ret => exact ⟨_, a₂, w₂, hq₂, .of_steps (.head step_scope hs) harr₂⟩
    | panic ch => exact ⟨_, a₂, w₂, hq₂, .of_steps (.head step_scope hs) harr₂⟩
    | outgrown => exact ⟨_, a₂, w₂, hq₂, .of_steps (.head step_scope hs) harr₂⟩
  | ret => exact ⟨_, a₁, w₁, hq, .of_steps (.one step_scope) harr⟩
  | panic ch => exact ⟨_, a₁, w₁, hq, .of_steps (.one step_scope) harr⟩
  | outgrown => exact ⟨_, a₁, w₁, hq, .of_steps (.one step_scope) harr⟩
end
/-! The words. -/
def wordN (n : Nat) : List UInt8 := opWords.getD (n + 1) []
theorem kind_mem : ∀ e ∈ (kindEs 10).toList, ∃ n : Nat, n < 10 ∧ ∃ f, e = ⟨.int .i64 (n + 1 : Nat), kindV (wordN n) f, n⟩ := by
  intro e he
  simp only [kindEs, List.take] at he
  simp only [List.mem_cons, List.not_mem_nil, or_false] at he
  rcases he with rfl | rfl | rfl | rfl | rfl | rfl | rfl | rfl | rfl | rfl
  · exact ⟨0, by decide, 105, rfl⟩
  · exact ⟨1, by decide, 106, rfl⟩
  · exact ⟨2, by decide, 105, rfl⟩
  · exact ⟨3, by decide, 107, rfl⟩
  · exact ⟨4, by decide, 108, rfl⟩
  · exact ⟨5, by decide, 109, rfl⟩
  · exact ⟨6, by decide, 110, rfl⟩
  · exact ⟨7, by decide, 111, rfl⟩
  · exact ⟨8, by decide, 112, rfl⟩
  · exact ⟨9, by decide, 107, rfl⟩
theorem kind_born : ∀ n, n < 10 → ∃ e ∈ (kindEs 10).toList, e.born = n := by
  intro n hn
  have h : ∀ n, n < 10 → ((kindEs 10).toList[n]?.map (·.born)) = some n := by
    intro n hn
    match n, hn with
    | 0, _ | 1, _ | 2, _ | 3, _ | 4, _ | 5, _ | 6, _ | 7, _ | 8, _ | 9, _ => rfl
  have := h n hn
  cases he : (kindEs 10).toList[n]? with
  | none => simp [he] at this
  | some e => exact ⟨e, List.mem_of_getElem? he, by simpa [he] using this⟩
theorem opOf_word : ∀ n, n < 10 → opOf (mk (wordN n)) = (n + 1 : Nat) := by
  intro n hn
  rcases (show n = 0 ∨ n = 1 ∨ n = 2 ∨ n = 3 ∨ n = 4 ∨ n = 5 ∨ n = 6 ∨ n = 7 ∨ n = 8 ∨ n = 9 by omega) with rfl | rfl | rfl | rfl | rfl | rfl | rfl | rfl | rfl | rfl <;> kernel_rfl
theorem opOf_none (s : ByteArray) (h : ∀ n, n < 10 → mk (wordN n) ≠ s) : opOf s = 0 := by
  unfold opOf
  split
  · rfl
  · rename_i h0
    have := Lib.idxOfS_miss (opWords.map mk) 11 s (fun j hj => by
      match j, hj with
      | 0, _ => exact fun e => h0 e.symm
      | j + 1, hj =>
        have hj' : j < 10 := by omega
        have e : (opWords.map mk).getD (j + 1) ByteArray.empty = mk (wordN j) := by
          have : j + 1 < opWords.length := by simp [opWords]; omega
          simp only [wordN, List.getD_eq_getElem?_getD, List.getElem?_map, List.getElem?_eq_getElem this, Option.map_some, Option.getD_some]
        rw [e]; exact h j hj')
    rw [List.take_of_length_le (by simp [opWords])] at this
    rw [this]; rfl
theorem opOf_cases (s : ByteArray) : opOf s = 0 ∨ ∃ n, n < 10 ∧ mk (wordN n) = s ∧ opOf s = (n + 1 : Nat) := by
  by_cases h : ∃ n, n < 10 ∧ mk (wordN n) = s
  · obtain ⟨n, hn, rfl⟩ := h
    exact .inr ⟨n, hn, rfl, opOf_word n hn⟩
  · exact .inl (opOf_none s fun n hn e => h ⟨n, hn, e⟩)
/-- The Op that the entries seen so far have given. -/
def opSeen (seen : Array Nat) (s : ByteArray) : Int := if seen.contains (opOf s - 1).toNat && decide (opOf s ≠ 0) then opOf s else 0
theorem opSeen_empty (s : ByteArray) : opSeen #[] s = 0 := by simp [opSeen]
theorem opSeen_hit (seen : Array Nat) (s : ByteArray) (n : Nat) (hn : n < 10) (h : mk (wordN n) = s) : opSeen (seen.push n) s = (n + 1 : Nat) := by
  have := opOf_word n hn
  rw [h] at this
  unfold opSeen
  rw [this]
  simp
  omega
theorem opSeen_miss (seen : Array Nat) (s : ByteArray) (n : Nat) (hn : n < 10) (h : ¬ mk (wordN n) = s) : opSeen (seen.push n) s = opSeen seen s := by
  unfold opSeen
  rcases opOf_cases s with h0 | ⟨m, hm, hs, ho⟩
  · simp [h0]
  · have hne : m ≠ n := fun e => h (by rw [← e]; exact hs)
    rw [ho]
    simp [hne]
theorem opSeen_all (seen : Array Nat) (s : ByteArray) (h : (leftOf (kindEs 10) seen).size = 0) : opSeen seen s = opOf s := by
  unfold opSeen
  rcases opOf_cases s with h0 | ⟨m, hm, hs, ho⟩
  · simp [h0]
  · obtain ⟨e, he, hb⟩ := kind_born m hm
    have := all_seen (kindEs 10) seen h e he
    rw [hb] at this
    rw [ho]
    have e1 : (((m + 1 : Nat) : Int) - 1).toNat = m := by omega
    rw [e1, this]
    simp
    omega
theorem wpl_next {P : Program} {ops : Array Oper} {rest : List Oper} {o : Oper} {a : Act} {w : World} {Q : Exit → Act → World → Prop} (hgd : o.guard = none) (it : Operand) (hop : o.op = .next it false) (r mb : Nat) (seen : Array Nat)
    (hit : a.eval it = .pointer (some ⟨r, 0, none⟩)) (hr : w.heap[r]? = some (.mapIter (some mb) 10 seen 10)) (hb : w.heap[mb]? = some (.map (kindEs 10) 10))
    (hDone : (leftOf (kindEs 10) seen).size = 0 → wpList P ops Q rest (a.put o.dst (.tuple #[.bool false])) w)
    (hMore : ∀ (n f : Nat) (w1 : World), n < 10 → (leftOf (kindEs 10) (seen.push n)).size < (leftOf (kindEs 10) seen).size → (w1 = w ∨ w1 = w.drew) →
      (Instr.entry (.pointer (some ⟨r, 0, none⟩))).run P (setBlock w1 r (.mapIter (some mb) 10 (seen.push n) 10)) = .ok (.tuple #[.int .i64 (n + 1 : Nat), .agg #[.string ⟨(wordN n).toArray⟩, .func (.func f) #[] #[]]]) (setBlock w1 r (.mapIter (some mb) 10 (seen.push n) 10)) →
      wpList P ops Q rest (a.put o.dst (.tuple #[.bool true, .int .i64 (n + 1 : Nat), .agg #[.string ⟨(wordN n).toArray⟩, .func (.func f) #[] #[]]])) (setBlock w1 r (.mapIter (some mb) 10 (seen.push n) 10))) :
    wpList P ops Q (o :: rest) a w := by
  refine wpList_plain hgd fun K hK => ?_
  unfold Oper.wp
  have hne : mb ≠ r := by rintro rfl; rw [hr] at hb; cases hb
  rcases run_next_at (P := P) w o.type r mb 10 10 seen (kindEs 10) 10 hr hb (fun x hx => by obtain ⟨n, hn, f, rfl⟩ := kind_mem x hx; exact hn) (Nat.le_refl _) with ⟨h0, hrun⟩ | ⟨e, he, w1, hal, hrun⟩
  · simp [execOp, hop, hit, hrun, Result.andThen]
    exact hK _ _ (hDone h0)
  · have hsh := left_shrinks (kindEs 10) seen e he
    have hm := (mem_left he).1
    have hm' := hm
    obtain ⟨n, hn, f, rfl⟩ := kind_mem e hm
    have hr1 : w1.heap[r]? = some (.mapIter (some mb) 10 seen 10) := by rcases hal with rfl | rfl <;> exact hr
    have hb1 : w1.heap[mb]? = some (.map (kindEs 10) 10) := by rcases hal with rfl | rfl <;> exact hb
    have hset := MapKept.heap_set (o' := .mapIter (some mb) 10 (seen.push n) 10) hr1
    have hen := run_entry_at (P := P) (setBlock w1 r (.mapIter (some mb) 10 (seen.push n) 10)) r mb 10 seen (kindEs 10) 10 ⟨.int .i64 (n + 1 : Nat), kindV (wordN n) f, n⟩ hset.1 ((hset.2 mb hne).trans hb1) hm' (by decide)
    simp [execOp, hop, hit, hrun, Result.andThen]
    exact hK _ _ (hMore n f w1 hn hsh hal hen)
end Go.Proofs.YtmjojlacpgdomaaGreatDoor
