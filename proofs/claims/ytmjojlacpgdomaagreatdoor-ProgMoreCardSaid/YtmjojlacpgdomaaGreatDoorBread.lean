import Derived.Test.YtmjojlacpgdomaaGreatDoorBright2
/-! prog.Read. -/
namespace Go.Proofs.YtmjojlacpgdomaaGreatDoor
set_option linter.unusedSimpArgs false
set_option linter.unusedVariables false
open Go Go.RowKit
attribute [local go_sem] setRow_new setRow_old
theorem info33z : (Tryz.prog.info? 33).map (fun i => (i.zero, i.size, i.bytes)) = some (some (.agg #[.int .i64 0, .int .i64 0, .int .u32 0, .bool false, .int .u32 0, .int .i64 0, .int .i64 0, .int .i64 0, .int .i64 0, .int .i64 0, .bool false, .int .i64 0, .int .u32 0, .int .u32 0, .bool false, .bool false, .int .i64 0, .bool false]), 18, 120) := by kernel_rfl
def flat (l : List Ins) : List Value := (l.map Ins.cells).flatten
theorem cells_len (x : Ins) : x.cells.length = 18 := rfl
theorem flat_len (l : List Ins) : (flat l).length = l.length * 18 := by
  induction l with
  | nil => rfl
  | cons x r ih => simp only [flat, List.map_cons, List.flatten_cons, List.length_append, cells_len, List.length_cons] at ih ⊢; omega
theorem flat_snoc (l : List Ins) (x : Ins) : flat (l ++ [x]) = flat l ++ x.cells := by simp [flat]
theorem flat_get : ∀ (l : List Ins) (j : Nat) (x : Ins), l[j]? = some x → ∀ i v, x.cells[i]? = some v → (flat l)[j * 18 + i]? = some v
  | [], j, x, h, _, _, _ => by simp at h
  | y :: r, 0, x, h, i, v, hv => by
    simp at h; subst h
    simp only [flat, List.map_cons, List.flatten_cons, Nat.zero_mul, Nat.zero_add]
    rw [List.getElem?_append_left (List.getElem?_eq_some_iff.1 hv).1]
    exact hv
  | y :: r, j + 1, x, h, i, v, hv => by
    have ih := flat_get r j x (by simpa using h) i v hv
    simp only [flat, List.map_cons, List.flatten_cons] at ih ⊢
    rw [List.getElem?_append_right (by rw [cells_len]; omega), cells_len, show (j + 1) * 18 + i - 18 = j * 18 + i by omega]
    exact ih
/-- A row of instructions that the call has laid. -/
def OwnI (w : World) (B : Nat) (v : Value) (l : List Ins) : Prop := w.ownsRow B 33 18 v l.length (flat l)
theorem OwnI.below {w w' : World} {B : Nat} {v : Value} {l : List Ins} (h : OwnI w B v l) (hb : Below w.heap.size w w') : OwnI w' B v l :=
  World.ownsRow.kept h (grown_of_below (row := none) hb) (by
    cases hv : v.ownBlock with
    | none => exact .inl rfl
    | some k => exact .inr (by simp))
theorem OwnI.keep {w w' : World} {B : Nat} {v : Value} {l : List Ins} {b T : Nat} {cs : Array Value} {fr : Nat × Nat} (h : OwnI w B v l) (hg : w.grownBy w' v.ownBlock) (hr : w.heap[b]? = some (.cells cs T fr)) (hT : T ≠ 33) : w'.heap[b]? = some (.cells cs T fr) := by
  rw [hg.block b (Array.getElem?_eq_some_iff.1 hr).1]
  · exact hr
  · rcases h.2 with ⟨rfl, _⟩ | ⟨g, cap, cur, rfl, _, hgg, _⟩
    · simp [Value.ownBlock]
    · simp only [Value.ownBlock, ne_eq, Option.some.injEq]
      rintro rfl
      rw [hgg] at hr
      simp only [Option.some.injEq, Obj.cells.injEq] at hr
      exact hT hr.2.1.symm
theorem OwnI.grown {w w' : World} {B : Nat} {v : Value} {l : List Ins} (h : OwnI w B v l) (hg : w.grownBy w' v.ownBlock) (hB : B ≤ w.heap.size) : Below B w w' :=
  (Below.refl B w).grown hg hB fun k hk => (World.ownsRow.lt h k hk).1
theorem OwnI.put {w : World} {B : Nat} {v : Value} {l : List Ins} (h : OwnI w B v l) {b T : Nat} {cs : Array Value} {fr : Nat × Nat} (hr : w.heap[b]? = some (.cells cs T fr)) (hT : T ≠ 33) (i : Nat) (u : Value) : OwnI (w.setCell ⟨b, i, none⟩ u) B v l := by
  refine ⟨h.1, ?_⟩
  rcases h.2 with hn | ⟨g, cap, cur, rfl, hb, hgg, rest⟩
  · exact .inl hn
  · refine .inr ⟨g, cap, cur, rfl, hb, (Below.heap_setCell _ _ _ _ (show g ≠ b from ?_)).trans hgg, rest⟩
    rintro rfl
    rw [hgg] at hr
    simp only [Option.some.injEq, Obj.cells.injEq] at hr
    exact hT hr.2.1.symm
theorem OwnI.shape {w : World} {B : Nat} {v : Value} {l : List Ins} (h : OwnI w B v l) : (v = .slice none 0 0 ∧ l = []) ∨ ∃ g cap, v = .slice (some ⟨g, 0, none⟩) l.length cap ∧ B ≤ g ∧ g < w.heap.size ∧ l.length ≤ cap := by
  rcases h.2 with ⟨hv, hn⟩ | ⟨g, cap, cur, hv, hb, hgg, hc, _⟩
  · exact .inl ⟨hv, List.eq_nil_of_length_eq_zero hn⟩
  · exact .inr ⟨g, cap, hv, hb, (Array.getElem?_eq_some_iff.1 hgg).1, hc⟩
theorem OwnI.sl {w : World} {B : Nat} {v : Value} {l : List Ins} (h : OwnI w B v l) : SlI w v l := by
  rcases h.2 with ⟨hv, hn⟩ | ⟨g, cap, cur, hv, hb, hgg, hc, hm, hs, ht⟩
  · have hl : l = [] := List.eq_nil_of_length_eq_zero hn
    subst hl
    exact ⟨none, 0, hv, Nat.le_refl _, fun h => (h rfl).elim⟩
  · refine ⟨some ⟨g, 0, none⟩, cap, hv, hc, fun _ => ⟨g, 0, rfl, (Array.getElem?_eq_some_iff.1 hgg).1, fun j x hj i u hu => ?_⟩⟩
    have h1 := flat_get l j x hj i u hu
    rw [← ht, List.getElem?_take] at h1
    split at h1
    · simp only [World.cell?, hgg, Nat.zero_add]
      simpa using h1
    · cases h1
theorem ins_one (x : Ins) : ∀ u ∈ x.cells, u.oneCell' = true := by
  have : x.cells.all (·.oneCell') = true := rfl
  exact List.all_eq_true.1 this
theorem wpl_appI {ops : Array Oper} {rest : List Oper} {o : Oper} {a : Act} {w : World} {Q : Exit → Act → World → Prop} (hgd : o.guard = none) (s x : Operand) (ho : o.op = .call { callee := .builtin .append, args := #[s, x], argTypes := #[22, 22] })
    (B : Nat) (v : Value) (l : List Ins) (y : Ins) (g : Nat) (hs : a.eval s = v) (hx : a.eval x = .slice (some ⟨g, 0, none⟩) 1 1) (hown : OwnI w B v l)
    (hg : w.heap[g]? = some (.cells y.cells.toArray 33 (0, 0))) (hsm : l.length ≤ 1000000) (hB : B ≤ w.heap.size)
    (h : ∀ v' w', OwnI w' B v' (l ++ [y]) → w.grownBy w' v.ownBlock → wpList Tryz.prog ops Q rest (a.put o.dst v') w') : wpList Tryz.prog ops Q (o :: rest) a w := by
  obtain ⟨i, hi, hz0, hz1, hz2⟩ := info_parts info33z
  refine wpList_append_own w hgd s x 22 ho B 33 i (.agg #[.int .i64 0, .int .i64 0, .int .u32 0, .bool false, .int .u32 0, .int .i64 0, .int .i64 0, .int .i64 0, .int .i64 0, .int .i64 0, .bool false, .int .i64 0, .int .u32 0, .int .u32 0, .bool false, .bool false, .int .i64 0, .bool false]) 18 120 Tryz.underlying22 hi hz0 hz1 hz2 rfl (by decide) v l.length (flat l) hs hown ⟨g, 0, none⟩ 1 1 y.cells hx rfl (fun j u hj => by
    rw [add_cell]
    simp only [World.cell?, hg, Nat.zero_add]
    simpa using hj) (ins_one y) (by unfold maxLen; omega) (by omega) hB ?_
  intro v' w' ho' hg' _
  exact h v' w' (by unfold OwnI; rw [flat_snoc, List.length_append]; exact ho') hg'
theorem good_all' : ∀ (ss : List ByteArray) (l : List Ins), ss.map readIns = l.map some → good ss = l
  | [], [], _ => rfl
  | [], _ :: _, h => by cases h
  | _ :: _, [], h => by cases h
  | s :: r, x :: l, h => by
    simp only [List.map_cons, List.cons.injEq] at h
    rw [good, h.1]
    simp only
    rw [good_all' r l h.2]
theorem good_stop : ∀ (ss : List ByteArray) (l : List Ins) (k : Nat) (s : ByteArray), (ss.take k).map readIns = l.map some → ss[k]? = some s → readIns s = none → good ss = l
  | [], l, k, s, _, h, _ => by simp at h
  | t :: r, l, 0, s, h, hk, hn => by
    simp at hk; subst hk
    have : l = [] := by simpa using h.symm
    subst this
    rw [good, hn]
  | t :: r, [], k + 1, s, h, _, _ => by simp at h
  | t :: r, x :: l, k + 1, s, h, hk, hn => by
    simp only [List.take_succ_cons, List.map_cons, List.cons.injEq] at h
    rw [good, h.1]
    simp only
    rw [good_stop r l k s h.2 (by simpa using hk) hn]
def ReadPost (s : ByteArray) (w : World) (e : Ending) (w' : World) : Prop :=
  ∃ v, e = .returned (.tuple #[v, .int .i64 ((readProg s).2.1 : Nat), .int .i64 ((readProg s).2.2 : Nat)]) ∧ OwnI w' w.heap.size v (readProg s).1 ∧ Below w.heap.size w w'
theorem ownI_nil (w : World) (B : Nat) : OwnI w B (.slice none 0 0) [] := World.ownsRow_nil w B 33 18
theorem results_cell_tmp_tmp {P : Program} {fn : Func} {p u q : Tmp} {ty : TypeId} (h : fn.results = #[.cell p ty, .tmp u, .tmp q]) (tmps : Array Value) (w : World) (g : Nat) (v : Value)
    (hp : tmps.getD p undef = .pointer (some ⟨g, 0, none⟩)) (hl : (loadVar ty ⟨g, 0, none⟩).run P w = .ok v w) :
    (results fn tmps).run P w = .ok (.tuple #[v, tmps.getD u undef, tmps.getD q undef]) w := by
  have hp' : tmps[p]?.getD undef = .pointer (some ⟨g, 0, none⟩) := by simpa using hp
  simp [results, h, hp', asAddr, hl, Sem.run_bind, Result.andThen]
theorem load22 {w : World} {g : Nat} {v : Value} (hv : w.cell? ⟨g, 0, none⟩ = some v) : (loadVar 22 ⟨g, 0, none⟩).run Tryz.prog w = .ok v w := by
  have ha : (isAgg 22).run Tryz.prog w = .ok false w := Tryz.isAgg22 w
  simp [loadVar, Sem.run_bind, ha, Result.andThen, hv]
theorem fold_ins (y : Ins) : List.foldl (fun (cs : Array Value) (x : Value × Nat) => cs.setIfInBounds x.snd x.fst) #[.int .i64 0, .int .i64 0, .int .u32 0, .bool false, .int .u32 0, .int .i64 0, .int .i64 0, .int .i64 0, .int .i64 0, .int .i64 0, .bool false, .int .i64 0, .int .u32 0, .int .u32 0, .bool false, .bool false, .int .i64 0, .bool false] y.cells.zipIdx = y.cells.toArray := by kernel_rfl
theorem readPost_of {s : ByteArray} {w w' : World} {e : Ending} {v : Value} {l : List Ins} {n f : Nat} (h : readProg s = (l, n, f)) (he : e = .returned (.tuple #[v, .int .i64 (n : Nat), .int .i64 (f : Nat)]))
    (ho : OwnI w' w.heap.size v l) (hb : Below w.heap.size w w') : ReadPost s w e w' := by
  refine ⟨v, ?_, ?_, hb⟩
  · rw [h]; exact he
  · rw [h]; exact ho
theorem readProg_bad {s : ByteArray} {ss : List ByteArray} {l : List Ins} (h0 : ¬ s.size = 0) (hs : ss = cut 10 s) (hg : good ss = l) (hl : l.length < ss.length) : readProg s = ([], l.length + 1, 8) := by
  subst hs; subst hg
  unfold readProg
  rw [if_neg h0, if_pos hl]
theorem readProg_many {s : ByteArray} {ss : List ByteArray} {l : List Ins} (h0 : ¬ s.size = 0) (hs : ss = cut 10 s) (hg : good ss = l) (hl : ¬ l.length < ss.length) (h : 64 < l.length) : readProg s = ([], 65, 3) := by
  subst hs; subst hg
  unfold readProg
  rw [if_neg h0, if_neg hl, if_pos h]
theorem readProg_far {s : ByteArray} {ss : List ByteArray} {l : List Ins} (h0 : ¬ s.size = 0) (hs : ss = cut 10 s) (hg : good ss = l) (hl : ¬ l.length < ss.length) (h : ¬ 64 < l.length) (hf : farIdx l < l.length) : readProg s = ([], farIdx l + 1, 6) := by
  subst hs; subst hg
  unfold readProg
  rw [if_neg h0, if_neg hl, if_neg h, if_pos hf]
theorem readProg_fine {s : ByteArray} {ss : List ByteArray} {l : List Ins} (h0 : ¬ s.size = 0) (hs : ss = cut 10 s) (hg : good ss = l) (hl : ¬ l.length < ss.length) (h : ¬ 64 < l.length) (hf : ¬ farIdx l < l.length) : readProg s = (l, 0, 0) := by
  subst hs; subst hg
  unfold readProg
  rw [if_neg h0, if_neg hl, if_neg h, if_neg hf]
theorem size_alloc1 (w : World) (o : Obj) : (w.alloc o).heap.size = w.heap.size + 1 := by simp
attribute [local go_sem] fold_ins cells_len
set_option maxRecDepth 100000 in
set_option maxHeartbeats 4000000 in
theorem read_empty (w : World) : Calls Tryz.prog 20 #[.string ⟨#[]⟩] w (ReadPost ⟨#[]⟩ w) := by
  go_enter Tryz.func20, Tryz.ntmps20
  go_wp2
  exact bodyPost_ret (results_cell_tmp_tmp (p := 2) (u := 3) (q := 4) (ty := 22) rfl _ _ w.heap.size (.slice none 0 0) rfl (load22 (by rw [rowc (heap_alloc_new w (.cells [Value.slice none 0 0].toArray 22)) 0]; rfl))) rfl (readPost_of rfl rfl (ownI_nil _ _) ((Below.refl _ _).alloc (Nat.le_refl _) _))
set_option maxRecDepth 100000 in
set_option maxHeartbeats 4000000 in
theorem read_any (s : ByteArray) (hs : s.size ≤ 900000) (w : World) (hG : Glob w) : Calls Tryz.prog 20 #[.string s] w (ReadPost s w) := by
  by_cases h0 : s.size = 0
  · obtain rfl : s = ⟨#[]⟩ := by
      obtain ⟨⟨l⟩⟩ := s
      cases l with
      | nil => rfl
      | cons a r => simp [ByteArray.size] at h0
    exact read_empty w
  have hem : s.toList.isEmpty = false := by
    rw [Lib.toList_data]
    obtain ⟨⟨l⟩⟩ := s
    cases l with
    | nil => exact (h0 rfl).elim
    | cons a r => rfl
  have hws := (cut_small 10 s).2
  have hwl := (cut_small 10 s).1
  obtain ⟨ss, hss0⟩ : ∃ ss, ss = cut 10 s := ⟨_, rfl⟩
  have Hss := Lib.hid hss0
  rw [← hss0] at hws hwl
  clear hss0
  have hsp := split_any s (by omega) 10
  rw [← Hss.out] at hsp
  go_enter Tryz.func20, Tryz.ntmps20
  have hrow0 : (((w.alloc (.cells #[.slice none 0 0] 22)).alloc (.cells (ss.map Value.string).toArray 9))).heap[w.heap.size + 1]? = some (.cells (ss.map Value.string).toArray 9 (0, 0)) := by ((try (simp only [alloc_drew, heap_drew])); first | exact heap_alloc_new _ _ | exact hp1 _ _ _ | exact hp2 _ _ _ _ | exact hp3 _ _ _ _ _ | exact hq1 _ _ _ | exact hq2 _ _ _ _ | exact hq3 _ _ _ _ _ | exact hr2 _ _ _ _ | exact hr3 _ _ _ _ _ | (simp; done))
  have ht20 : (((w.alloc (.cells #[.slice none 0 0] 22)).alloc (.cells (ss.map Value.string).toArray 9))).heap[w.heap.size]? = some (.cells #[.slice none 0 0] 22 (0, 0)) := by ((try (simp only [alloc_drew, heap_drew])); first | exact heap_alloc_new _ _ | exact hp1 _ _ _ | exact hp2 _ _ _ _ | exact hp3 _ _ _ _ _ | exact hq1 _ _ _ | exact hq2 _ _ _ _ | exact hq3 _ _ _ _ _ | exact hr2 _ _ _ _ | exact hr3 _ _ _ _ _ | (simp; done))
  have hB0 : Below w.heap.size w (((w.alloc (.cells #[.slice none 0 0] 22)).alloc (.cells (ss.map Value.string).toArray 9))) := by (show Below _ _ _; repeat (first | exact Below.refl _ _ | assumption | refine Below.drew ?_ | refine Below.alloc ?_ (by first | omega | (simp; done) | (simp; omega) | (simp [World.setCell]; omega)) _ | refine Below.setCell ?_ (by first | omega | (simp; done) | (simp; omega) | (simp [World.setCell]; omega)) _ | refine below_setRow ?_ (by first | omega | (simp; done) | (simp; omega) | (simp [World.setCell]; omega)) _ | (refine Below.trans ?_ (Below.mono (by assumption) (by first | omega | (simp; done) | (simp; omega) | (simp [World.setCell]; omega))))))
  go_wp2_with (go_at_call 56; (with_reducible refine (hsp _ (by exact hG.alloc _)).mono ?_); rintro e w1 ⟨rfl, rfl⟩)
  go_loopw [15] (fun t wr => ∃ k l v, k ≤ ss.length ∧ t = .int .i64 (k : Nat) ∧ (ss.take k).map readIns = l.map some ∧ OwnI wr w.heap.size v l ∧ wr.heap[w.heap.size]? = some (.cells #[v] 22 (0, 0)) ∧ wr.heap[w.heap.size + 1]? = some (.cells (ss.map Value.string).toArray 9 (0, 0)) ∧ Below w.heap.size w wr) (fun t _ => ss.length - (intOf t).toNat)
  case atStart => exact ⟨0, [], _, Nat.zero_le _, rfl, rfl, ownI_nil _ _, ht20, hrow0, hB0⟩
  case round =>
    obtain ⟨k, l, v, hk, rfl, hl, hown, ht2, hrow, hB⟩ := hrel
    clear hrow0 ht20 hB0 hsp hem
    have Hl := Lib.hid hl
    have hll : l.length = k := by have h := congrArg List.length hl; simp at h; omega
    clear hl
    have hot := row_hot ht2
    have hG1 := hG.below hB
    by_cases hlt : k < ss.length
    · have Hxk := Lib.hid (List.getElem?_eq_getElem hlt)
      have hxs := hws _ (List.getElem_mem hlt)
      generalize ss[k] = x at Hxk hxs
      have hcx : wr.cell? ⟨w.heap.size + 1, k, none⟩ = some (.string x) := by
        simp only [World.cell?, hrow]
        simp [Hxk.out]
      have hone := one_any x (by omega)
      cases hr : readIns x with
      | none =>
        have Hgs := Lib.hid (good_stop ss l k x Hl.out Hxk.out hr)
        have hll' : l.length < ss.length := by omega
        simp only [oneI, oneE, hr] at hone
        clear hr
        go_wp2_with (first | (go_at_call 23; (with_reducible refine (hone _ (by exact hG1)).mono ?_); rintro e w1 ⟨rfl, hb1⟩; have ht2s := (hb1.block w.heap.size (heap_lt ht2)).trans ht2; have hrows := (hb1.block (w.heap.size + 1) (heap_lt hrow)).trans hrow; have hlt1 : w.heap.size < w1.heap.size := Nat.lt_of_lt_of_le (heap_lt ht2) hb1.size; have ht2r := (setRow_heap_ne (w1.alloc (.cells #[.int .i64 0, .int .i64 0, .int .u32 0, .bool false, .int .u32 0, .int .i64 0, .int .i64 0, .int .i64 0, .int .i64 0, .int .i64 0, .bool false, .int .i64 0, .int .u32 0, .int .u32 0, .bool false, .bool false, .int .i64 0, .bool false] 33)) w1.heap.size w.heap.size (Ins.zero.cells).toArray (by omega)).trans ((Below.heap_alloc w1 (.cells #[.int .i64 0, .int .i64 0, .int .u32 0, .bool false, .int .u32 0, .int .i64 0, .int .i64 0, .int .i64 0, .int .i64 0, .int .i64 0, .bool false, .int .i64 0, .int .u32 0, .int .u32 0, .bool false, .bool false, .int .i64 0, .bool false] 33) _ (heap_lt ht2s)).trans ht2s); have hot2 := row_hot ht2r; have hot1 := row_hot ht2s; have hcell1 := rowc ht2s 0; have hcell2 := rowc ht2r 0; simp only [List.getElem?_cons_zero] at hcell1 hcell2) | ((with_reducible refine wpl_store 33 _ _ rfl ?_ w1.heap.size 0 33 _ Ins.zero.cells (heap_alloc_new w1 (.cells #[.int .i64 0, .int .i64 0, .int .u32 0, .bool false, .int .u32 0, .int .i64 0, .int .i64 0, .int .i64 0, .int .i64 0, .int .i64 0, .bool false, .int .i64 0, .int .u32 0, .int .u32 0, .bool false, .bool false, .int .i64 0, .bool false] 33)) ?_ ?_ ?_ ?_ ?_ Ins.zero.cells ?_ ?_); (· rfl); (· rfl); (· rfl); (· kernel_rfl); (· exact Nat.le_of_ble_eq_true rfl); (· rfl); (· rfl)))
        refine bodyPost_ret (results_cell_tmp_tmp (p := 2) (u := 3) (q := 4) (ty := 22) rfl _ _ w.heap.size (.slice none 0 0) rfl (load22 ?_)) rfl (readPost_of (readProg_bad h0 Hss.out Hgs.out hll') (by rw [hll]; simp) (ownI_nil _ _) ?_)
        · rw [rowc ((Below.heap_alloc _ _ _ (by simpa [World.setCell] using hlt1)).trans (row_put ht2s 0 (.slice none 0 0) rfl)) 0]; rfl
        · exact ((hB.trans (hb1.mono hB.size)).setCell (p := ⟨w.heap.size, 0, none⟩) (Nat.le_refl _) _).alloc (by simp [World.setCell]; omega) _
      | some y =>
        have Hr := Lib.hid hr
        simp only [oneI, oneE, hr] at hone
        clear hr
        go_wp2_with (first | (go_at_call 23; (with_reducible refine (hone _ (by exact hG1)).mono ?_); rintro e w1 ⟨rfl, hb1⟩; have ht2s := (hb1.block w.heap.size (heap_lt ht2)).trans ht2; have hrows := (hb1.block (w.heap.size + 1) (heap_lt hrow)).trans hrow; have hlt1 : w.heap.size < w1.heap.size := Nat.lt_of_lt_of_le (heap_lt ht2) hb1.size; have ht2r := (setRow_heap_ne (w1.alloc (.cells #[.int .i64 0, .int .i64 0, .int .u32 0, .bool false, .int .u32 0, .int .i64 0, .int .i64 0, .int .i64 0, .int .i64 0, .int .i64 0, .bool false, .int .i64 0, .int .u32 0, .int .u32 0, .bool false, .bool false, .int .i64 0, .bool false] 33)) w1.heap.size w.heap.size (y.cells).toArray (by omega)).trans ((Below.heap_alloc w1 (.cells #[.int .i64 0, .int .i64 0, .int .u32 0, .bool false, .int .u32 0, .int .i64 0, .int .i64 0, .int .i64 0, .int .i64 0, .int .i64 0, .bool false, .int .i64 0, .int .u32 0, .int .u32 0, .bool false, .bool false, .int .i64 0, .bool false] 33) _ (heap_lt ht2s)).trans ht2s); have hot2 := row_hot ht2r; have hot1 := row_hot ht2s; have hcell1 := rowc ht2s 0; have hcell2 := rowc ht2r 0; simp only [List.getElem?_cons_zero] at hcell1 hcell2) | ((with_reducible refine wpl_store 33 _ _ rfl ?_ w1.heap.size 0 33 _ y.cells (heap_alloc_new w1 (.cells #[.int .i64 0, .int .i64 0, .int .u32 0, .bool false, .int .u32 0, .int .i64 0, .int .i64 0, .int .i64 0, .int .i64 0, .int .i64 0, .bool false, .int .i64 0, .int .u32 0, .int .u32 0, .bool false, .bool false, .int .i64 0, .bool false] 33)) ?_ ?_ ?_ ?_ ?_ y.cells ?_ ?_); (· rfl); (· rfl); (· rfl); (· kernel_rfl); (· exact Nat.le_of_ble_eq_true rfl); (· rfl); (· rfl)) | ((with_reducible refine wpl_load 33 _ rfl ?_ w1.heap.size 0 ?_ _ _ (CellsAt.of_block (heap_alloc_new w1 (.cells y.cells.toArray 33))) Tryz.underlying33 rfl ?_ ?_); (· rfl); (· rfl); (· kernel_rfl)) | (at_builtin; have hownA : OwnI ((w1.alloc (.cells y.cells.toArray 33)).alloc (.cells y.cells.toArray 33)) w.heap.size v l := (hown.below hb1).below (((Below.refl w1.heap.size w1).alloc (Nat.le_refl _) _).alloc (by simp) _); have htA := (Below.heap_alloc (w1.alloc (.cells y.cells.toArray 33)) (.cells y.cells.toArray 33) _ (by simp; omega)).trans ((Below.heap_alloc w1 (.cells y.cells.toArray 33) _ (heap_lt ht2s)).trans ht2s); have hrA := (Below.heap_alloc (w1.alloc (.cells y.cells.toArray 33)) (.cells y.cells.toArray 33) _ (by have := heap_lt hrows; simp; omega)).trans ((Below.heap_alloc w1 (.cells y.cells.toArray 33) _ (heap_lt hrows)).trans hrows); (with_reducible refine wpl_appI rfl (.tmp 30) (.tmp 32) rfl w.heap.size v l y (w1.heap.size + 1) ?_ ?_ hownA ?_ ?_ ?_ ?_); (· rfl); (· rfl); (· rw [← size_alloc1]; exact heap_alloc_new _ _); (· omega); (· simp; omega); intro v2 w2 hown2 hg2; obtain ⟨sa2, sc2, hv2, hsl2⟩ := hown2.sl; (rw [show (l ++ [y]).length = k + 1 by simp; omega] at hv2); subst hv2; clear hsl2; have ht22 := hownA.keep hg2 htA (by decide); have hrow22 := hownA.keep hg2 hrA (by decide); have hB2 : Below w.heap.size w w2 := (((hB.trans (hb1.mono hB.size)).alloc (by omega) _).alloc (by simp; omega) _).trans (hownA.grown hg2 (by simp; omega)); have hot22 := row_hot ht22; have hcell22 := rowc ht22 0; simp only [List.getElem?_cons_zero] at hcell22))
        go_roundw
        case rel =>
          refine ⟨k + 1, l ++ [y], .slice sa2 (k + 1) sc2, by omega, by go_num, ?_, hown2.put ht22 (by decide) 0 _, row_put ht22 0 (.slice sa2 (k + 1) sc2) rfl, (Below.heap_setCell _ _ _ _ (show w.heap.size + 1 ≠ w.heap.size by omega)).trans hrow22, hB2.setCell (p := ⟨w.heap.size, 0, none⟩) (Nat.le_refl _) _⟩
          rw [List.take_add_one, Hxk.out, List.map_append, Hl.out, Option.toList_some, List.map_cons, Hr.out]
          simp
        case measure => simp [intOf]; omega
    · have hk' : k = ss.length := by omega
      have hgs : good ss = l := good_all' ss l (by have h := Hl.out; rw [hk', List.take_length] at h; exact h)
      have Hgs := Lib.hid hgs
      have hmf : ∀ (fn : Fn) (first cap : Array Value) (w : World), (Instr.makeFunc fn first cap).run Tryz.prog w = .ok (.func fn first cap) w := fun _ _ _ _ => rfl
      have hS := hown.sl
      obtain ⟨sa, sc, rfl, hlc, hx⟩ := hS
      have Hno := Lib.hid (show ¬ l.length < ss.length by omega)
      have hl6 : l.length ≤ 1000000 := by omega
      clear hx hgs hk hll hk'
      have hcell1 := rowc ht2 0
      simp only [List.getElem?_cons_zero] at hcell1
      have hidx := idx_58 l _ w.heap.size l.length sc sa wr hown.sl hcell1 (heap_lt ht2) hl6
      have hfi : idxI (farI l.length) l = if farIdx l < l.length then ((farIdx l : Nat) : Int) else -1 := rfl
      rw [hfi] at hidx
      clear hfi
      by_cases h64 : 64 < l.length
      · have h64' : decide (64 < l.length) = true := by simpa using h64
        clear hidx
        go_wp2
        refine bodyPost_ret (results_cell_tmp_tmp (p := 2) (u := 3) (q := 4) (ty := 22) rfl _ _ w.heap.size (.slice none 0 0) rfl (load22 ?_)) rfl (readPost_of (readProg_many h0 Hss.out Hgs.out Hno.out h64) rfl (ownI_nil _ _) ?_)
        · rw [rowc (row_put ht2 0 (.slice none 0 0) rfl) 0]; rfl
        · exact hB.setCell (p := ⟨w.heap.size, 0, none⟩) (Nat.le_refl _) _
      · have h64' : decide (64 < l.length) = false := by simpa using h64
        by_cases hf : farIdx l < l.length
        · have Hf := Lib.hid hf
          rw [if_pos hf] at hidx
          obtain ⟨r, hr⟩ : ∃ r, r = farIdx l := ⟨_, rfl⟩
          rw [← hr] at hidx hf Hf
          have Hr := Lib.hid hr
          clear hr
          go_wp2_with ((go_at_call 57; (with_reducible refine hidx.mono ?_); rintro e w3 ⟨rfl, hb3⟩; have ht23 := (hb3.block w.heap.size (heap_lt ht2)).trans ht2; have hot3 := row_hot ht23; have hcell3 := rowc ht23 0; simp only [List.getElem?_cons_zero] at hcell3))
          refine bodyPost_ret (results_cell_tmp_tmp (p := 2) (u := 3) (q := 4) (ty := 22) rfl _ _ w.heap.size (.slice none 0 0) rfl (load22 ?_)) rfl (readPost_of (readProg_far h0 Hss.out Hgs.out Hno.out h64 (by rw [← Hr.out]; exact Hf.out)) (by rw [← Hr.out]; simp) (ownI_nil _ _) ?_)
          · rw [rowc (row_put ht23 0 (.slice none 0 0) rfl) 0]; rfl
          · exact (hB.trans (hb3.mono hB.size)).setCell (p := ⟨w.heap.size, 0, none⟩) (Nat.le_refl _) _
        · have Hf := Lib.hid hf
          rw [if_neg hf] at hidx
          clear hf
          go_wp2_with ((go_at_call 57; (with_reducible refine hidx.mono ?_); rintro e w3 ⟨rfl, hb3⟩; have ht23 := (hb3.block w.heap.size (heap_lt ht2)).trans ht2; have hot3 := row_hot ht23; have hcell3 := rowc ht23 0; simp only [List.getElem?_cons_zero] at hcell3))
          refine bodyPost_ret (results_cell_tmp_tmp (p := 2) (u := 3) (q := 4) (ty := 22) rfl _ _ w.heap.size (.slice sa l.length sc) rfl (load22 ?_)) rfl (readPost_of (readProg_fine h0 Hss.out Hgs.out Hno.out h64 Hf.out) rfl ((hown.below hb3).put ht23 (by decide) 0 _) ?_)
          · rw [rowc (row_put ht23 0 (.slice sa l.length sc) rfl) 0]; rfl
          · exact (hB.trans (hb3.mono hB.size)).setCell (p := ⟨w.heap.size, 0, none⟩) (Nat.le_refl _) _
end Go.Proofs.YtmjojlacpgdomaaGreatDoor
