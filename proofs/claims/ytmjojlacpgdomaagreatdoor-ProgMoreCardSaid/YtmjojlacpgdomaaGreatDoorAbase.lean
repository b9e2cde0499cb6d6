import Derived.Test.YtmjojlacpgdomaaGreatDoorAeq
import Derived.Laws.Rows
import Derived.OrdersHeld
/-! An instruction as data; the words of its rightness. -/
namespace Go.Proofs.YtmjojlacpgdomaaGreatDoor
set_option linter.unusedSimpArgs false
set_option linter.unusedVariables false
open Go Go.RowKit
structure Reg where
  on : Bool
  rw : Int
  rf : Int
  rt : Int
  rd : Bool
  wr : Bool
  rk : Int
  lk : Bool
structure Cmd where
  k : Int
  ix : Int
  wo : Int
  li : Int
  reg : Reg
structure Ins where
  op : Int
  size : Int
  addr : Int
  idx : Bool
  data : Int
  to : Int
  conf : Cmd
def Reg.cells (r : Reg) : List Value := [.bool r.on, .int .i64 r.rw, .int .u32 r.rf, .int .u32 r.rt, .bool r.rd, .bool r.wr, .int .i64 r.rk, .bool r.lk]
def Cmd.cells (c : Cmd) : List Value := .int .i64 c.k :: .int .i64 c.ix :: .int .i64 c.wo :: .int .i64 c.li :: c.reg.cells
def Ins.cells (x : Ins) : List Value := .int .i64 x.op :: .int .i64 x.size :: .int .u32 x.addr :: .bool x.idx :: .int .u32 x.data :: .int .i64 x.to :: x.conf.cells
def Reg.zero : Reg := ⟨false, 0, 0, 0, false, false, 0, false⟩
def Cmd.zero : Cmd := ⟨0, 0, 0, 0, .zero⟩
def Ins.zero : Ins := ⟨0, 0, 0, false, 0, 0, .zero⟩
/-- Nothing but the Op. -/
def regNone (r : Reg) : Bool := !r.on && (r.rw == 0 && ((r.rf == 0 && r.rt == 0) && (!r.rd && (!r.wr && (r.rk == 0 && !r.lk)))))
def cmdNone (c : Cmd) : Bool := c.k == 0 && (c.ix == 0 && (c.wo == 0 && (c.li == 0 && regNone c.reg)))
def insNone (size addr : Int) (idx : Bool) (data to : Int) (c : Cmd) : Bool := size == 0 && (addr == 0 && (!idx && (data == 0 && (to == 0 && cmdNone c))))

/-! Reading a whole struct. -/
def CellsAt (w : World) (b o : Nat) (cs : List Value) : Prop := ∀ j v, cs[j]? = some v → w.cell? ⟨b, o + j, none⟩ = some v
theorem CellsAt.of_block {w : World} {b : Nat} {cs : List Value} {t : TypeId} {fr : Nat × Nat} (h : w.heap[b]? = some (.cells cs.toArray t fr)) : CellsAt w b 0 cs := by
  intro j v hv
  simp [World.cell?, h, hv]
theorem CellsAt.new (w : World) (cs : List Value) (t : TypeId) : CellsAt (w.alloc (.cells cs.toArray t)) w.heap.size 0 cs :=
  CellsAt.of_block (heap_alloc_new w _)
theorem CellsAt.below {w w' : World} {b o B : Nat} {cs : List Value} (h : CellsAt w b o cs) (hb : Below B w w') (hlt : b < B) : CellsAt w' b o cs :=
  fun j v hv => (hb.cell (p := ⟨b, o + j, none⟩) hlt).trans (h j v hv)
theorem CellsAt.alloc {w : World} {b o : Nat} {cs : List Value} (h : CellsAt w b o cs) (hlt : b < w.heap.size) (x : Obj) : CellsAt (w.alloc x) b o cs :=
  h.below ((Below.refl w.heap.size w).alloc (Nat.le_refl _) x) hlt
theorem CellsAt.drew {w : World} {b o : Nat} {cs : List Value} (h : CellsAt w b o cs) : CellsAt w.drew b o cs := h
theorem add_cell (b o j : Nat) : (⟨b, o, none⟩ : Addr).add j = ⟨b, o + j, none⟩ := by unfold Addr.add; split <;> simp_all
def isAggDesc : TypeDesc → Bool
  | .struct _ | .array _ _ => true
  | _ => false
theorem run_loadVar_cells {P : Program} {w : World} {ty b o : Nat} {cs : List Value} {d : TypeDesc} (hc : CellsAt w b o cs)
    (hu : P.underlying ty = some d) (hd : isAggDesc d = true) (hi : (P.info? ty).map (·.size) = some cs.length) :
    (loadVar ty ⟨b, o, none⟩).run P w = .ok (.agg cs.toArray) w := by
  have hl : (loadCells ⟨b, o, none⟩ cs.length).run P w = .ok cs.toArray w :=
    run_loadCells_list (P := P) w ⟨b, o, none⟩ cs (fun j v hv => by rw [add_cell]; exact hc j v hv)
  cases hq : P.info? ty with
  | none => simp [hq] at hi
  | some i =>
    have hs : i.size = cs.length := by simpa [hq] using hi
    have hagg : (isAgg ty).run P w = .ok true w := by
      unfold isAgg
      rw [Sem.run_bind, run_underlying hu w]
      cases d <;> simp_all [isAggDesc]
    simp [loadVar, Sem.run_bind, hagg, sizeOf, typeInfo, hq, hs, hl]
theorem wpl_load {P : Program} {ops : Array Oper} {rest : List Oper} {o : Oper} {a : Act} {w : World} {Q : Exit → Act → World → Prop}
    (ty : TypeId) (x : Operand) (ho : o.op = .load ty x) (hgd : Region.wanted o (yielded ops a.tmps) = true)
    (b off : Nat) (hx : a.eval x = .pointer (some ⟨b, off, none⟩)) (cs : List Value) (d : TypeDesc) (hc : CellsAt w b off cs)
    (hu : P.underlying ty = some d) (hd : isAggDesc d = true) (hi : (P.info? ty).map (·.size) = some cs.length)
    (h : wpList P ops Q rest (a.put o.dst (.agg cs.toArray)) w) : wpList P ops Q (o :: rest) a w := by
  refine wpList_step fun K hK => ?_
  rw [if_pos hgd]
  unfold Oper.wp execOp
  simp only [ho, hx, Instr.loadAt, Instr.sureAddr, Sem.run_bind, Sem.run_pure, Result.andThen_ok, run_loadVar_cells hc hu hd hi]
  exact hK _ _ h
/-! Writing a whole struct into a block that is known. -/
theorem run_storeVar_at {P : Program} {w : World} {ty g off t : Nat} {old vs : List Value} (hg : w.heap[g]? = some (.cells old.toArray t (0, 0)))
    (hi : (P.info? ty).map (·.size) = some vs.length) (hl : off + vs.length ≤ old.length) (h1 : vs.all (·.oneCell') = true) :
    (storeVar ty ⟨g, off, none⟩ (.agg vs.toArray)).run P w = .ok () (w.setRow g (old.take off ++ vs ++ old.drop (off + vs.length)).toArray) := by
  have := run_storeCells_at (P := P) g off t vs 0 old.toArray w hg (by simpa using hl) (fun v hv => (List.all_eq_true.1 h1) v hv)
  cases hq : P.info? ty with
  | none => simp [hq] at hi
  | some i =>
    have hs : vs.length = i.size := by simp [hq] at hi; omega
    simp [storeVar, sizeOf, typeInfo, hq, Value.cells, hs] at this ⊢
    exact this
theorem wpl_store {P : Program} {ops : Array Oper} {rest : List Oper} {o : Oper} {a : Act} {w : World} {Q : Exit → Act → World → Prop}
    (ty : TypeId) (x y : Operand) (ho : o.op = .store ty x y) (hgd : Region.wanted o (yielded ops a.tmps) = true)
    (g off t : Nat) (old vs : List Value) (hg : w.heap[g]? = some (.cells old.toArray t (0, 0)))
    (hx : a.eval x = .pointer (some ⟨g, off, none⟩)) (hy : a.eval y = .agg vs.toArray)
    (hi : (P.info? ty).map (·.size) = some vs.length) (hl : off + vs.length ≤ old.length) (h1 : vs.all (·.oneCell') = true)
    (new : List Value) (hn : old.take off ++ vs ++ old.drop (off + vs.length) = new)
    (h : wpList P ops Q rest (a.put o.dst undef) (w.setRow g new.toArray)) : wpList P ops Q (o :: rest) a w := by
  subst hn
  refine wpList_step fun K hK => ?_
  rw [if_pos hgd]
  unfold Oper.wp execOp
  simp only [ho, hx, hy, Instr.storeAt, Instr.sureAddr, Sem.run_bind, Sem.run_pure, Result.andThen_ok, run_storeVar_at hg hi hl h1]
  exact hK _ _ h
theorem hp1 (w : World) (o p : Obj) : ((w.alloc o).alloc p).heap[w.heap.size]? = some o := (Below.heap_alloc _ _ _ (by simp)).trans (heap_alloc_new _ _)
theorem hp2 (w : World) (o p q : Obj) : (((w.alloc o).alloc p).alloc q).heap[w.heap.size]? = some o := (Below.heap_alloc _ _ _ (by simp; omega)).trans (hp1 _ _ _)
theorem hp3 (w : World) (o p q r : Obj) : ((((w.alloc o).alloc p).alloc q).alloc r).heap[w.heap.size]? = some o := (Below.heap_alloc _ _ _ (by simp; omega)).trans (hp2 _ _ _ _)
theorem hq1 (w : World) (o p : Obj) : ((w.alloc o).alloc p).heap[w.heap.size + 1]? = some p := heap_alloc2_new _ _ _
theorem hq2 (w : World) (o p q : Obj) : (((w.alloc o).alloc p).alloc q).heap[w.heap.size + 1]? = some p := (Below.heap_alloc _ _ _ (by simp)).trans (hq1 _ _ _)
theorem hq3 (w : World) (o p q r : Obj) : ((((w.alloc o).alloc p).alloc q).alloc r).heap[w.heap.size + 1]? = some p := (Below.heap_alloc _ _ _ (by simp)).trans (hq2 _ _ _ _)
theorem hr2 (w : World) (o p q : Obj) : (((w.alloc o).alloc p).alloc q).heap[w.heap.size + 1 + 1]? = some q := by
  have h := heap_alloc_new ((w.alloc o).alloc p) q
  simpa using h
theorem hr3 (w : World) (o p q r : Obj) : ((((w.alloc o).alloc p).alloc q).alloc r).heap[w.heap.size + 1 + 1]? = some q := (Below.heap_alloc _ _ _ (by simp)).trans (hr2 _ _ _ _)
theorem CellsAt.sub {w : World} {b : Nat} {all : List Value} {t : TypeId} {fr : Nat × Nat} (h : w.heap[b]? = some (.cells all.toArray t fr)) (off n : Nat) :
    CellsAt w b off ((all.drop off).take n) := by
  intro j v hv
  have hv' : (all.drop off)[j]? = some v := by
    rw [List.getElem?_take] at hv
    split at hv
    · exact hv
    · cases hv
  rw [List.getElem?_drop] at hv'
  simp [World.cell?, h, hv']
theorem setRow_new (w : World) (c c' : Array Value) (t : TypeId) : (w.alloc (.cells c t)).setRow w.heap.size c' = w.alloc (.cells c' t) := by
  cases w with
  | mk heap tape drawn os output =>
    simp only [World.alloc, World.setRow]
    congr 1
    apply Array.ext_getElem?
    intro k
    simp only [Array.getElem?_modify, Array.getElem?_push]
    by_cases h : k = heap.size
    · subst h; simp
    · have h' : heap.size ≠ k := fun e => h e.symm
      simp [h, h']
theorem setRow_old (w : World) (g : Nat) (c : Array Value) (o : Obj) (h : g < w.heap.size) : (w.alloc o).setRow g c = (w.setRow g c).alloc o := by
  cases w with
  | mk heap tape drawn os output =>
    simp only [World.alloc, World.setRow] at h ⊢
    congr 1
    apply Array.ext_getElem?
    intro k
    simp only [Array.getElem?_modify, Array.getElem?_push, Array.size_modify]
    by_cases hk : k = heap.size
    · subst hk
      have : ¬ g = heap.size := by omega
      simp [this]
    · simp [hk]
/-! A region that draws its order, taken step by step. -/
section
variable {P : Program} {ops : Array Oper} {Q : Exit → Act → World → Prop} {S : World → Prop} {a : Act} {w : World} {fuel : Nat} {L : Array Bool}
theorem region_start {id : Nat} (n : Nat) (hn : ops.size = n) (L : Array Bool) (hL : Array.replicate n false = L) (hm : P.follows .mixedOrders = true)
    (h : wpAnyH P .any ops Q S n L a w.drew) : (Code.region id ops true).wp P Q a w := by
  subst hn; subst hL
  exact wp_region_held hm h
theorem region_s (hS : S w) (h : S w → wpAnyH P .any ops Q S fuel L a w) : wpAnyH P .any ops Q S fuel L a w := h hS
theorem region_take {i : Nat} {oi : Oper} {v : Value} (L' : Array Bool) (hi : ops[i]? = some oi) (hs : Region.noSelect ops = true) (hf : Region.free .any ops L i = true)
    (hr : (Region.ready .any ops L).contains i = true) (hQ : ∀ c a w, Q (.panic c) (a.put oi.dst v) w → Q (.panic c) a w) (hS : S w)
    (hy : YieldsIf P ops S oi v a) (hL : L.setIfInBounds i true = L')
    (h : wpAnyH P .any ops Q S fuel L' (a.put oi.dst v) w) : wpAnyH P .any ops Q S (fuel + 1) L a w := by
  subst hL
  exact wpAnyH_take hi hs hf hr hQ hy hS h
theorem region_op {i : Nat} {oi : Oper} (L' : Array Bool) (hi : ops[i]? = some oi) (hr : Region.ready .any ops L = [i])
    (hL : L.setIfInBounds i true = L') (hw : Region.wanted oi (yielded ops a.tmps) = true)
    (h : ∀ K : Act → World → Prop, (∀ a' w', (S w' ∧ (S w' → wpAnyH P .any ops Q S fuel L' a' w')) → K a' w') → oi.wp P a w K Q) : wpAnyH P .any ops Q S (fuel + 1) L a w := by
  subst hL
  refine wpAnyH_all hr (by simp) fun j hj => ?_
  obtain rfl : j = i := by simpa using hj
  unfold wpOp
  simp only [hi, hw, if_true]
  exact .inl (Oper.wp_mono (fun a' w' h' => ⟨h'.1, h'.2 h'.1⟩) (h _ (fun _ _ h => h)))
theorem region_two {i j : Nat} {oi oj : Oper} (L1 L2 : Array Bool) (hi : ops[i]? = some oi) (hj : ops[j]? = some oj) (hr : Region.ready .any ops L = [i, j])
    (hL1 : L.setIfInBounds i true = L1) (hL2 : L.setIfInBounds j true = L2)
    (hwi : Region.wanted oi (yielded ops a.tmps) = true) (hwj : Region.wanted oj (yielded ops a.tmps) = true)
    (h1 : ∀ K : Act → World → Prop, (∀ a' w', (S w' ∧ (S w' → wpAnyH P .any ops Q S fuel L1 a' w')) → K a' w') → oi.wp P a w K Q)
    (h2 : ∀ K : Act → World → Prop, (∀ a' w', (S w' ∧ (S w' → wpAnyH P .any ops Q S fuel L2 a' w')) → K a' w') → oj.wp P a w K Q) : wpAnyH P .any ops Q S (fuel + 1) L a w := by
  subst hL1; subst hL2
  refine wpAnyH_all hr (by simp) fun k hk => ?_
  have hk' : k = i ∨ k = j := by simpa using hk
  unfold wpOp
  rcases hk' with rfl | rfl
  · simp only [hi, hwi, if_true]
    exact .inl (Oper.wp_mono (fun a' w' h' => ⟨h'.1, h'.2 h'.1⟩) (h1 _ (fun _ _ h => h)))
  · simp only [hj, hwj, if_true]
    exact .inl (Oper.wp_mono (fun a' w' h' => ⟨h'.1, h'.2 h'.1⟩) (h2 _ (fun _ _ h => h)))
end
/-- What a command's Kind names. -/
def cmdNamed (c : Cmd) : Cmd :=
  if c.k = 1 then ⟨1, c.ix, 0, 0, c.reg⟩
  else if c.k = 3 then ⟨3, c.ix, c.wo, 0, .zero⟩
  else if c.k = 5 then ⟨5, c.ix, c.wo, 0, .zero⟩
  else if c.k = 6 then ⟨6, c.ix, 0, c.li, .zero⟩
  else if c.k = 7 then ⟨7, 0, 0, 0, .zero⟩
  else ⟨c.k, c.ix, 0, 0, .zero⟩
end Go.Proofs.YtmjojlacpgdomaaGreatDoor
