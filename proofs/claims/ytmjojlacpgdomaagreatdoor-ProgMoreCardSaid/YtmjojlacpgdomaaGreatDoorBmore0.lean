import Derived.Test.YtmjojlacpgdomaaGreatDoorBawake
import Derived.Deep.DeepCutAuto
import Derived.Deep.CutBlock
/-! Appends of instructions in a region; the plain law of ProgMore. -/
namespace Go.Proofs.YtmjojlacpgdomaaGreatDoor
set_option linter.unusedSimpArgs false
set_option linter.unusedVariables false
open Go Go.RowKit
theorem flat_append (l m : List Ins) : flat (l ++ m) = flat l ++ flat m := by simp [flat]
theorem flat_one (l : List Ins) : ∀ u ∈ flat l, u.oneCell' = true := by
  intro u hu
  simp only [flat, List.mem_flatten, List.mem_map] at hu
  obtain ⟨_, ⟨x, _, rfl⟩, hu⟩ := hu
  exact ins_one x u hu
theorem wp_appI {o : Oper} {a : Act} {w : World} {K : Act → World → Prop} {Q : Exit → Act → World → Prop} (s x : Operand) (ho : o.op = .call { callee := .builtin .append, args := #[s, x], argTypes := #[22, 22] })
    (B : Nat) (v : Value) (l m : List Ins) (n c : Nat) (ao : Option Addr) (hs : a.eval s = v) (hx : a.eval x = .slice ao n c) (hm : n = m.length) (hown : OwnI w B v l)
    (hnone : ao = none → n = 0 ∧ c = 0) (hc : ∀ ad, ao = some ad → ∀ j u, (flat m)[j]? = some u → w.cell? (ad.add j) = some u) (hsm : l.length + n ≤ 1000000) (hB : B ≤ w.heap.size)
    (h : ∀ v' w', OwnI w' B v' (l ++ m) → w.grownBy w' v.ownBlock → K (a.put o.dst v') w') : o.wp Tryz.prog a w K Q := by
  subst hm
  obtain ⟨i, hi, hz0, hz1, hz2⟩ := info_parts info33z
  cases ao with
  | some ad =>
    refine wp_append_own w s x 22 ho B 33 i (.agg #[.int .i64 0, .int .i64 0, .int .u32 0, .bool false, .int .u32 0, .int .i64 0, .int .i64 0, .int .i64 0, .int .i64 0, .int .i64 0, .bool false, .int .i64 0, .int .u32 0, .int .u32 0, .bool false, .bool false, .int .i64 0, .bool false]) 18 120 Tryz.underlying22 hi hz0 hz1 hz2 rfl (by decide) v l.length (flat l) hs hown ad m.length c (flat m) hx (flat_len m) (hc ad rfl) (flat_one m) (by unfold maxLen; omega) (by omega) hB ?_
    intro v' w' ho' hg' _
    exact h v' w' (by unfold OwnI; rw [List.length_append, flat_append]; exact ho') hg'
  | none =>
    obtain ⟨h0, rfl⟩ := hnone rfl
    have hm0 : m = [] := List.eq_nil_of_length_eq_zero h0
    subst hm0
    have hrun := run_append_owned_none (P := Tryz.prog) w B 22 o.type 33 i 18 Tryz.underlying22 hi _ l.length (flat l) hown
    unfold Oper.wp
    simp [execOp, ho, resolve, invoke, builtin, hs, hx, hrun, Result.andThen]
    exact h _ _ (by simpa using hown) (World.grownBy.refl _ _)
theorem SlI.news {w : World} {v : Value} {l : List Ins} (h : SlI w v l) : ∃ ao c, v = .slice ao l.length c ∧ ∀ ad, ao = some ad → l ≠ [] → ∀ j u, (flat l)[j]? = some u → w.cell? (ad.add j) = some u := by
  obtain ⟨a, c, hv, hl, hx⟩ := h
  refine ⟨a, c, hv, fun ad had hne j u hu => ?_⟩
  obtain ⟨b, o, rfl, _, hc⟩ := hx hne
  injection had with had
  subst had
  have hj : j < l.length * 18 := by have := (List.getElem?_eq_some_iff.1 hu).1; rwa [flat_len] at this
  have hj18 : j / 18 < l.length := by omega
  have h1 := hc (j / 18) _ (List.getElem?_eq_getElem hj18) (j % 18)
  have h2 := flat_get l (j / 18) _ (List.getElem?_eq_getElem hj18) (j % 18)
  have hlt : j % 18 < (l[j / 18]).cells.length := by rw [cells_len]; omega
  have h3 := h1 _ (List.getElem?_eq_getElem hlt)
  have h4 := h2 _ (List.getElem?_eq_getElem hlt)
  rw [show j / 18 * 18 + j % 18 = j by omega] at h4
  rw [h4] at hu
  injection hu with hu
  subst hu
  rw [add_cell]
  rw [show o + j / 18 * 18 + j % 18 = o + j by omega] at h3
  exact h3
theorem ldRow33 (ρ : Operand → Value) (dst : Option Tmp) (x : Operand) (ty : TypeId) (pos : String) (after : Array Edge) (gd : Option (Nat × Bool)) (W : World) (b : Nat) (cs : List Value) (hx : ρ x = .pointer (some ⟨b, 0, none⟩))
    (hr : W.heap[b]? = some (.cells cs.toArray 33 (0, 0))) (hl : (Tryz.prog.info? 33).map (·.size) = some cs.length) :
    (execOp ρ ⟨dst, .load 33 x, ty, pos, after, gd⟩).run Tryz.prog W = .ok (.value (.agg cs.toArray)) W := by
  have h2 := run_loadVar_cells (P := Tryz.prog) (ty := 33) (CellsAt.of_block hr) Tryz.underlying33 rfl hl
  unfold execOp
  simp only [hx, Instr.loadAt, Instr.sureAddr, Sem.run_bind, Sem.run_pure, Result.andThen_ok, h2]
/-! The plain law. -/
theorem right_snoc (l : List Ins) (x : Ins) (h : progRight l = true) : progRight (l ++ [x]) = (insRight x && (decide (x.to ≤ ((l ++ [x]).length : Nat)) && decide (l.length < 64))) := by
  unfold progRight at h ⊢
  simp only [Bool.and_eq_true, decide_eq_true_eq, List.all_eq_true] at h
  obtain ⟨h1, h2⟩ := h
  rw [Bool.eq_iff_iff]
  simp only [Bool.and_eq_true, decide_eq_true_eq, List.all_eq_true, List.mem_append, List.mem_singleton, List.length_append, List.length_cons, List.length_nil]
  constructor
  · rintro ⟨a, b⟩
    have := b x (.inr rfl)
    exact ⟨this.1, this.2, by omega⟩
  · rintro ⟨a, b, c⟩
    refine ⟨by omega, fun y hy => ?_⟩
    rcases hy with hy | rfl
    · have := h2 y hy
      exact ⟨this.1, by have := this.2; omega⟩
    · exact ⟨a, by omega⟩
/-- The greatest To of instructions, at least 0. -/
def farMost (l : List Ins) : Int := l.foldl (fun m x => max m x.to) 0
theorem foldl_max (l : List Ins) : ∀ (m n : Int), (l.foldl (fun m x => max m x.to) m ≤ n) ↔ (m ≤ n ∧ ∀ x ∈ l, x.to ≤ n) := by
  induction l with
  | nil => intro m n; simp
  | cons y r ih =>
    intro m n
    rw [List.foldl_cons, ih]
    simp only [List.mem_cons, forall_eq_or_imp]
    rw [Int.max_le, and_assoc]
theorem right_init (l : List Ins) (h : progRight l = true) (hne : l ≠ []) : progRight (l.take (l.length - 1)) = decide (farMost (l.take (l.length - 1)) < (l.length : Nat)) := by
  have hlen : 0 < l.length := List.length_pos_iff.2 hne
  unfold progRight at h ⊢
  simp only [Bool.and_eq_true, decide_eq_true_eq, List.all_eq_true] at h
  obtain ⟨h1, h2⟩ := h
  rw [Bool.eq_iff_iff]
  simp only [Bool.and_eq_true, decide_eq_true_eq, List.all_eq_true, List.length_take]
  have hf := foldl_max (l.take (l.length - 1)) 0 ((l.length : Int) - 1)
  have hm : min (l.length - 1) l.length = l.length - 1 := by omega
  rw [hm]
  unfold farMost
  constructor
  · rintro ⟨_, b⟩
    have := hf.2 ⟨by omega, fun x hx => by have := (b x hx).2; omega⟩
    omega
  · intro a
    have h3 := (hf.1 (by omega)).2
    exact ⟨by omega, fun x hx => ⟨(h2 x (List.mem_of_mem_take hx)).1, by have := h3 x hx; omega⟩⟩
end Go.Proofs.YtmjojlacpgdomaaGreatDoor
