import Derived.Test.YtmjojlacpgdomaaGreatDoorBown
import Derived.Test.YtmjojlacpgdomaaGreatDoorBinstr
/-! The laws of a row of words that the call lays and appends to; hex, join. -/
namespace Go.Proofs.YtmjojlacpgdomaaGreatDoor
set_option linter.unusedSimpArgs false
set_option linter.unusedVariables false
open Go Go.RowKit
theorem info9 : (Tryz.prog.info? 9).map (fun i => (i.zero, i.size, i.bytes)) = some (some (.string ⟨#[]⟩), 1, 16) := by kernel_rfl
/-- The value v is a row of the words ws that the call has laid behind block B. -/
def Own (w : World) (B : Nat) (v : Value) (ws : List (List UInt8)) : Prop := w.ownsRow B 9 1 v ws.length (ws.map str)
theorem grown_of_below {w w' : World} {row : Option Nat} (hb : Below w.heap.size w w') : w.grownBy w' row := ⟨hb.os, hb.tape, hb.output, hb.size, fun k hk _ => hb.block k hk⟩
theorem Own.below {w w' : World} {B : Nat} {v : Value} {ws : List (List UInt8)} (h : Own w B v ws) (hb : Below w.heap.size w w') : Own w' B v ws :=
  World.ownsRow.kept h (grown_of_below (row := none) hb) (by
    cases hv : v.ownBlock with
    | none => exact .inl rfl
    | some k => exact .inr (by simp))
theorem Own.new (w : World) (B : Nat) (l : List (List UInt8)) (n : Nat) (hn : n = l.length) (hB : B ≤ w.heap.size) (hl : n ≤ 1000) : Own (w.alloc (.cells (l.map str).toArray 9)) B (.slice (some ⟨w.heap.size, 0, none⟩) n n) l := by
  subst hn
  exact ⟨by simp, .inr ⟨w.heap.size, l.length, _, rfl, hB, heap_alloc_new _ _, Nat.le_refl _, by unfold maxLen; omega, by simp, by rw [List.take_of_length_le (by simp)]⟩⟩
theorem Own.at {w : World} {B g n : Nat} {l : List (List UInt8)} (hg : w.heap[g]? = some (.cells (l.map str).toArray 9 (0, 0))) (hn : n = l.length) (hB : B ≤ g) (hl : n ≤ 1000) : Own w B (.slice (some ⟨g, 0, none⟩) n n) l := by
  subst hn
  exact ⟨by simp, .inr ⟨g, l.length, _, rfl, hB, hg, Nat.le_refl _, by unfold maxLen; omega, by simp, by rw [List.take_of_length_le (by simp)]⟩⟩
theorem Own.keep {w w' : World} {B : Nat} {v : Value} {ws : List (List UInt8)} {b T : Nat} {cs : Array Value} {fr : Nat × Nat} (h : Own w B v ws) (hg : w.grownBy w' v.ownBlock) (hr : w.heap[b]? = some (.cells cs T fr)) (hT : T ≠ 9) : w'.heap[b]? = some (.cells cs T fr) := by
  rw [hg.block b (Array.getElem?_eq_some_iff.1 hr).1]
  · exact hr
  · rcases h.2 with ⟨rfl, _⟩ | ⟨g, cap, cur, rfl, _, hgg, _⟩
    · simp [Value.ownBlock]
    · simp only [Value.ownBlock, ne_eq, Option.some.injEq]
      rintro rfl
      rw [hgg] at hr
      simp only [Option.some.injEq, Obj.cells.injEq] at hr
      exact hT hr.2.1.symm
theorem Own.grown {w w' : World} {B : Nat} {v : Value} {ws : List (List UInt8)} (h : Own w B v ws) (hg : w.grownBy w' v.ownBlock) (hB : B ≤ w.heap.size) : Below B w w' :=
  (Below.refl B w).grown hg hB fun k hk => (World.ownsRow.lt h k hk).1
theorem str_one (ws : List (List UInt8)) : ∀ u ∈ ws.map str, u.oneCell' = true := by
  intro u hu
  obtain ⟨x, _, rfl⟩ := List.mem_map.1 hu
  rfl
theorem cells_news {w : World} {g : Nat} {news : List (List UInt8)} (hg : w.heap[g]? = some (.cells (news.map str).toArray 9 (0, 0))) : ∀ j u, (news.map str)[j]? = some u → w.cell? ((⟨g, 0, none⟩ : Addr).add j) = some u := by
  intro j u hj
  rw [add_cell]
  simp only [World.cell?, hg]
  simpa using hj
theorem wp_app {o : Oper} {a : Act} {w : World} {K : Act → World → Prop} {Q : Exit → Act → World → Prop} (s x : Operand) (ho : o.op = .call { callee := .builtin .append, args := #[s, x], argTypes := #[43, 43] })
    (B : Nat) (v : Value) (ws news : List (List UInt8)) (g m : Nat) (hs : a.eval s = v) (hx : a.eval x = .slice (some ⟨g, 0, none⟩) m m) (hm : m = news.length) (hown : Own w B v ws)
    (hg : w.heap[g]? = some (.cells (news.map str).toArray 9 (0, 0))) (hsm : ws.length + m ≤ 1000) (hB : B ≤ w.heap.size)
    (h : ∀ v' w', Own w' B v' (ws ++ news) → w.grownBy w' v.ownBlock → K (a.put o.dst v') w') : o.wp Tryz.prog a w K Q := by
  subst hm
  obtain ⟨i, hi, hz0, hz1, hz2⟩ := info_parts info9
  refine wp_append_own w s x 43 ho B 9 i (.string ⟨#[]⟩) 1 16 Tryz.underlying43 hi hz0 hz1 hz2 rfl (by decide) v ws.length (ws.map str) hs hown ⟨g, 0, none⟩ news.length news.length (news.map str) hx (by simp) (cells_news hg) (str_one news) (by unfold maxLen; omega) (by omega) hB ?_
  intro v' w' ho' hg' _
  exact h v' w' (by unfold Own; rw [List.length_append, List.map_append]; exact ho') hg'
theorem wpl_app {ops : Array Oper} {rest : List Oper} {o : Oper} {a : Act} {w : World} {Q : Exit → Act → World → Prop} (hgd : o.guard = none) (s x : Operand) (ho : o.op = .call { callee := .builtin .append, args := #[s, x], argTypes := #[43, 43] })
    (B : Nat) (v : Value) (ws news : List (List UInt8)) (g m : Nat) (hs : a.eval s = v) (hx : a.eval x = .slice (some ⟨g, 0, none⟩) m m) (hm : m = news.length) (hown : Own w B v ws)
    (hg : w.heap[g]? = some (.cells (news.map str).toArray 9 (0, 0))) (hsm : ws.length + m ≤ 1000) (hB : B ≤ w.heap.size)
    (h : ∀ v' w', Own w' B v' (ws ++ news) → w.grownBy w' v.ownBlock → wpList Tryz.prog ops Q rest (a.put o.dst v') w') : wpList Tryz.prog ops Q (o :: rest) a w :=
  wpList_plain hgd fun _ hK => wp_app s x ho B v ws news g m hs hx hm hown hg hsm hB fun v' w' h2 h3 => hK _ _ (h v' w' h2 h3)
/-- conf.join. -/
theorem cjoin_own (w : World) (B : Nat) (v : Value) (ws : List (List UInt8)) (hown : Own w B v ws) (hsmall : ws.length ≤ 1000) (hlen : (Lib.join ws [32]).length ≤ 140737488355328) :
    Calls Tryz.prog 134 #[v] w fun e w' => e = .returned (str (Lib.join ws [32])) ∧ Below w.heap.size w w' := by
  have hc := join_own w B v ws.length 32 ws rfl hown hsmall hlen
  generalize str (Lib.join ws [32]) = r at hc ⊢
  go_enter Tryz.func134, Tryz.ntmps134
  go_wp2_with (go_at_call 55; (with_reducible refine hc.mono ?_); rintro e w1 ⟨rfl, hb⟩)
  go_ret
  exact ⟨rfl, hb⟩
theorem hex131_any (n : Int) (h0 : 0 ≤ n) (h1 : n < 4294967296) (w : World) (hG : Glob w) :
    Calls Tryz.prog 131 #[.int .u32 n] w fun e w' => e = .returned (str (hexN 8 n.toNat)) ∧ Below w.heap.size w w' := by
  obtain ⟨m, rfl⟩ := Int.eq_ofNat_of_zero_le h0
  have hc := formatUint16 m (by omega) w hG
  rw [Int.toNat_natCast]
  have hm : m < 4294967296 := by omega
  go_enter Tryz.func131, Tryz.ntmps131
  go_wp2_with (go_at_call 128; (with_reducible refine hc.mono ?_); rintro e w1 ⟨rfl, hb⟩)
  go_ret
  exact ⟨rfl, hb⟩
theorem hex60_any (n : Int) (h0 : 0 ≤ n) (h1 : n < 4294967296) (w : World) (hG : Glob w) :
    Calls Tryz.prog 60 #[.int .u32 n] w fun e w' => e = .returned (str (hexN 8 n.toNat)) ∧ Below w.heap.size w w' := by
  obtain ⟨m, rfl⟩ := Int.eq_ofNat_of_zero_le h0
  have hc := formatUint16 m (by omega) w hG
  rw [Int.toNat_natCast]
  have hm : m < 4294967296 := by omega
  go_enter Tryz.func60, Tryz.ntmps60
  go_wp2_with (go_at_call 128; (with_reducible refine hc.mono ?_); rintro e w1 ⟨rfl, hb⟩)
  go_ret
  exact ⟨rfl, hb⟩
theorem lineS (n : Int) (h1 : n ≤ 9223372036854775807) (w : World) (hG : Glob w) : Calls Tryz.prog 133 #[.int .i64 n] w fun e w' => e = .returned (.string ⟨(lineW n).toArray⟩) ∧ Below w.heap.size w w' := lineW_any n h1 w hG
theorem hex131S (n : Int) (h0 : 0 ≤ n) (h1 : n < 4294967296) (w : World) (hG : Glob w) : Calls Tryz.prog 131 #[.int .u32 n] w fun e w' => e = .returned (.string ⟨(hexN 8 n.toNat).toArray⟩) ∧ Below w.heap.size w w' := hex131_any n h0 h1 w hG
theorem hex60S (n : Int) (h0 : 0 ≤ n) (h1 : n < 4294967296) (w : World) (hG : Glob w) : Calls Tryz.prog 60 #[.int .u32 n] w fun e w' => e = .returned (.string ⟨(hexN 8 n.toNat).toArray⟩) ∧ Below w.heap.size w w' := hex60_any n h0 h1 w hG
theorem rightsS (on rd wr lk : Bool) (rw rf rt rk : Int) (w : World) : Calls Tryz.prog 132 #[.agg #[.bool on, .int .i64 rw, .int .u32 rf, .int .u32 rt, .bool rd, .bool wr, .int .i64 rk, .bool lk]] w fun e w' => e = .returned (.string ⟨(rightsW rd wr).toArray⟩) ∧ Below w.heap.size w w' := rights_any on rd wr lk rw rf rt rk w
theorem ldOp29 (ρ : Operand → Value) (dst : Option Tmp) (x : Operand) (ty : TypeId) (pos : String) (after : Array Edge) (gd : Option (Nat × Bool)) (W : World) (h : IsRowV W 8 (ρ x)) :
    (execOp ρ ⟨dst, .load 29 x, ty, pos, after, gd⟩).run Tryz.prog W = .ok (.value (.agg (rowOf W (blockV (ρ x))))) W := by
  cases hv : ρ x with
  | pointer a =>
    rw [hv] at h
    match a, h with
    | some ⟨b, 0, none⟩, h =>
      have hr := h.2
      unfold IsRow rowOf at hr
      cases hh : W.heap[b]? with
      | none => simp [hh] at hr
      | some o =>
        cases o with
        | cells c t fr =>
          simp [hh] at hr
          have hl := run_loadVar_cells (P := Tryz.prog) (ty := 29) (CellsAt.of_block (cs := c.toList) (t := t) (fr := fr) (by simpa using hh)) Tryz.underlying29 rfl (by rw [Array.length_toList, hr]; kernel_rfl)
          unfold execOp
          simp only [hv, Instr.loadAt, Instr.sureAddr, Sem.run_bind, Sem.run_pure, Result.andThen_ok, hl, blockV_ptr, rowOf, hh, Array.toArray_toList]
        | _ => simp [hh] at hr
  | _ => rw [hv] at h; exact h.elim
/-- What a region keeps: all below block 'w.heap.size', two rows, the heap's size. -/
structure Kp (w : World) (b1 : Nat) (c1 : Array Value) (T1 : TypeId) (b2 : Nat) (c2 : Array Value) (T2 : TypeId) (N : Nat) (W : World) : Prop where
  low : Below w.heap.size w W
  r1 : W.heap[b1]? = some (.cells c1 T1 (0, 0))
  r2 : W.heap[b2]? = some (.cells c2 T2 (0, 0))
  sz : N ≤ W.heap.size
theorem Kp.below {w : World} {b1 : Nat} {c1 : Array Value} {T1 : TypeId} {b2 : Nat} {c2 : Array Value} {T2 : TypeId} {N : Nat} {W W' : World} (h : Kp w b1 c1 T1 b2 c2 T2 N W) (hb : Below W.heap.size W W') : Kp w b1 c1 T1 b2 c2 T2 N W' :=
  ⟨h.low.trans (hb.mono h.low.size), (hb.block b1 (Array.getElem?_eq_some_iff.1 h.r1).1).trans h.r1, (hb.block b2 (Array.getElem?_eq_some_iff.1 h.r2).1).trans h.r2, Nat.le_trans h.sz hb.size⟩
theorem Kp.alloc {w : World} {b1 : Nat} {c1 : Array Value} {T1 : TypeId} {b2 : Nat} {c2 : Array Value} {T2 : TypeId} {N : Nat} {W : World} (h : Kp w b1 c1 T1 b2 c2 T2 N W) (o : Obj) : Kp w b1 c1 T1 b2 c2 T2 N (W.alloc o) :=
  h.below ((Below.refl _ _).alloc (Nat.le_refl _) o)
theorem Kp.drew {w : World} {b1 : Nat} {c1 : Array Value} {T1 : TypeId} {b2 : Nat} {c2 : Array Value} {T2 : TypeId} {N : Nat} {W : World} (h : Kp w b1 c1 T1 b2 c2 T2 N W) : Kp w b1 c1 T1 b2 c2 T2 N W.drew := ⟨h.low.drew, h.r1, h.r2, h.sz⟩
theorem Kp.app {w : World} {b1 : Nat} {c1 : Array Value} {T1 : TypeId} {b2 : Nat} {c2 : Array Value} {T2 : TypeId} {N B : Nat} {W W' : World} {v : Value} {ws : List (List UInt8)} (h : Kp w b1 c1 T1 b2 c2 T2 N W) (ho : Own W B v ws) (hg : W.grownBy W' v.ownBlock)
    (hB : w.heap.size ≤ B) (hBW : B ≤ W.heap.size) (h1 : T1 ≠ 9) (h2 : T2 ≠ 9) : Kp w b1 c1 T1 b2 c2 T2 N W' :=
  ⟨h.low.trans ((ho.grown hg hBW).mono hB), ho.keep hg h.r1 h1, ho.keep hg h.r2 h2, Nat.le_trans h.sz hg.size⟩
end Go.Proofs.YtmjojlacpgdomaaGreatDoor
