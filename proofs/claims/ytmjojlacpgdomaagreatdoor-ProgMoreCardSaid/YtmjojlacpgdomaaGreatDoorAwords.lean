import Derived.Test.YtmjojlacpgdomaaGreatDoorAnum
/-! Words that are taken one by one: (conf.words).take, (prog.words).next. -/
namespace Go.Proofs.YtmjojlacpgdomaaGreatDoor
set_option linter.unusedSimpArgs false
set_option linter.unusedVariables false
open Go Go.RowKit
/-- Only the block b has turned. -/
structure But (b : Nat) (w w' : World) : Prop where
  os : w'.os = w.os
  tape : w'.tape = w.tape
  output : w'.output = w.output
  size : w.heap.size ≤ w'.heap.size
  block : ∀ k, k < w.heap.size → k ≠ b → w'.heap[k]? = w.heap[k]?
theorem But.refl (b : Nat) (w : World) : But b w w := ⟨rfl, rfl, rfl, Nat.le_refl _, fun _ _ _ => rfl⟩
theorem But.trans {b : Nat} {u v w : World} (h : But b u v) (k : But b v w) : But b u w :=
  ⟨k.os.trans h.os, k.tape.trans h.tape, k.output.trans h.output, Nat.le_trans h.size k.size, fun i hi hb => (k.block i (Nat.lt_of_lt_of_le hi h.size) hb).trans (h.block i hi hb)⟩
theorem But.of {b : Nat} {w w' : World} (h : Below w.heap.size w w') : But b w w' := ⟨h.os, h.tape, h.output, h.size, fun k hk _ => h.block k hk⟩
theorem But.drew {b : Nat} {u w : World} (h : But b u w) : But b u w.drew := ⟨h.os, h.tape, h.output, h.size, h.block⟩
theorem But.setCell {b : Nat} {u w : World} (h : But b u w) {p : Addr} (hp : p.block = b) (x : Value) : But b u (w.setCell p x) :=
  h.trans ⟨rfl, rfl, rfl, by simp [World.setCell], fun k _ hk => Below.heap_setCell _ _ _ _ (by omega)⟩
theorem But.below {b B : Nat} {w w' : World} (h : But b w w') (hb : B ≤ b) (hB : B ≤ w.heap.size) : Below B w w' :=
  ⟨h.os, h.tape, h.output, h.size, fun k hk => h.block k (by omega) (by omega)⟩
theorem But.cell {b : Nat} {w w' : World} (h : But b w w') {p : Addr} (hp : p.block ≠ b) (hs : p.block < w.heap.size) : w'.cell? p = w.cell? p := World.cell?_of_block (h.block _ hs hp)
theorem heap_lt {w : World} {b : Nat} {o : Obj} (h : w.heap[b]? = some o) : b < w.heap.size := (Array.getElem?_eq_some_iff.1 h).1
theorem row_put {w : World} {b : Nat} {t : TypeId} {cs cs' : List Value} (h : w.heap[b]? = some (.cells cs.toArray t (0, 0))) (i : Nat) (u : Value) (e : cs.set i u = cs') :
    (w.setCell ⟨b, i, none⟩ u).heap[b]? = some (.cells cs'.toArray t (0, 0)) := by
  subst e
  show (w.heap.modify b _)[b]? = _
  rw [Array.getElem?_modify, if_pos rfl, h]
  simp
theorem row_hot {w : World} {b : Nat} {t : TypeId} {cs : List Value} (h : w.heap[b]? = some (.cells cs.toArray t (0, 0))) (i : Nat) : w.frozen? ⟨b, i, none⟩ = false := by
  simp [World.frozen?, h]
theorem row_cell {w : World} {b : Nat} {t : TypeId} {cs : List Value} (h : w.heap[b]? = some (.cells cs.toArray t (0, 0))) (i : Nat) : w.cell? ⟨b, i, none⟩ = cs[i]? := by
  simp [World.cell?, h]
/-- The library's variables are what they were when all that the block pb belongs to began. -/
def Env (pb : Nat) (w : World) : Prop := ∃ w0, Glob w0 ∧ w0.heap.size ≤ pb ∧ Below w0.heap.size w0 w
theorem Env.glob {pb : Nat} {w : World} (h : Env pb w) : Glob w := let ⟨_, h0, _, hb⟩ := h; h0.below hb
theorem Env.but {pb : Nat} {w w' : World} (h : Env pb w) (hb : But pb w w') : Env pb w' := let ⟨w0, h0, hl, hB⟩ := h; ⟨w0, h0, hl, hB.trans (hb.below hl hB.size)⟩
/-- The words that a slice's value holds; they lie ahead of the block pb. -/
def Strs (pb : Nat) (w : World) (v : Value) (ws : List ByteArray) : Prop :=
  ∃ a c, v = .slice a ws.length c ∧ ws.length ≤ c ∧ c ≤ 4294967296 ∧ (ws ≠ [] → ∃ r o, a = some ⟨r, o, none⟩ ∧ r < pb ∧ ∀ j x, ws[j]? = some x → w.cell? ⟨r, o + j, none⟩ = some (.string x))
theorem Strs.but {pb : Nat} {w w' : World} {v : Value} {ws : List ByteArray} (h : Strs pb w v ws) (hp : pb < w.heap.size) (hb : But pb w w') : Strs pb w' v ws := by
  obtain ⟨a, c, rfl, hl, hc, hs⟩ := h
  refine ⟨a, c, rfl, hl, hc, fun hne => ?_⟩
  obtain ⟨r, o, rfl, hr, hx⟩ := hs hne
  exact ⟨r, o, rfl, hr, fun j x hj => (hb.cell (p := ⟨r, o + j, none⟩) (show r ≠ pb by omega) (show r < _ by omega)).trans (hx j x hj)⟩
def hd (ws : List ByteArray) : ByteArray := ws.headD ⟨#[]⟩
set_option maxRecDepth 100000 in
set_option maxHeartbeats 1000000 in
theorem take_nil (pb T c : Nat) (a : Option Addr) (ok : Bool) (w : World) (hp : w.heap[pb]? = some (.cells [.slice a 0 c, .bool ok].toArray T (0, 0))) :
    Calls Tryz.prog 218 #[.pointer (some ⟨pb, 0, none⟩)] w fun e w' => e = .returned (.string ⟨#[]⟩) ∧ w' = w.setCell ⟨pb, 1, none⟩ (.bool false) := by
  have h0 := row_cell hp 0
  have h1 := row_cell hp 1
  simp only [List.getElem?_cons_zero, List.getElem?_cons_succ] at h0 h1
  have hf := row_hot hp
  clear hp
  go_enter Tryz.func218, Tryz.ntmps218
  go_wp2
  go_ret
  exact ⟨rfl, rfl⟩
set_option maxRecDepth 100000 in
set_option maxHeartbeats 1000000 in
theorem take_cons (pb T r o n c : Nat) (x : ByteArray) (ok : Bool) (w : World) (hp : w.heap[pb]? = some (.cells [.slice (some ⟨r, o, none⟩) (n + 1) c, .bool ok].toArray T (0, 0)))
    (hx : w.cell? ⟨r, o, none⟩ = some (.string x)) (hc : n + 1 ≤ c) (hl : c ≤ 4294967296) :
    Calls Tryz.prog 218 #[.pointer (some ⟨pb, 0, none⟩)] w fun e w' => e = .returned (.string x) ∧ ∃ a, (n ≠ 0 → a = some ⟨r, o + 1, none⟩) ∧ w' = w.setCell ⟨pb, 0, none⟩ (.slice a n (c - 1)) := by
  have h0 := row_cell hp 0
  simp only [List.getElem?_cons_zero] at h0
  have hf := row_hot hp
  clear hp
  by_cases h1 : c = 1
  · subst h1
    obtain rfl : n = 0 := by omega
    go_enter Tryz.func218, Tryz.ntmps218
    go_wp2
    go_ret
    exact ⟨rfl, _, fun h => (h rfl).elim, rfl⟩
  · go_enter Tryz.func218, Tryz.ntmps218
    go_wp2
    go_ret
    exact ⟨rfl, _, fun _ => rfl, rfl⟩
end Go.Proofs.YtmjojlacpgdomaaGreatDoor
