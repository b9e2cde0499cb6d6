import Derived.Test.YtmjojlacpgdomaaGreatDoorBmore0
/-! septumlaw23.ProgMore. -/
namespace Go.Proofs.YtmjojlacpgdomaaGreatDoor
set_option linter.unusedSimpArgs false
set_option linter.unusedVariables false
open Go Go.RowKit
attribute [local go_sem] setRow_new setRow_old fold_ins cells_len
theorem heap_alloc_at (w : World) (o : Obj) (n : Nat) (h : w.heap.size = n) : (w.alloc o).heap[n]? = some o := by subst h; exact heap_alloc_new w o
theorem OwnI.empty {w : World} {B g : Nat} (hg : w.heap[g]? = some (.cells #[] 33 (0, 0))) (hB : B ≤ g) : OwnI w B (.slice (some ⟨g, 0, none⟩) 0 0) [] :=
  ⟨rfl, .inr ⟨g, 0, #[], rfl, hB, hg, Nat.le_refl _, Nat.zero_le _, rfl, rfl⟩⟩
theorem SlI.hc {w : World} {ao : Option Addr} {n c : Nat} {l : List Ins} (h : SlI w (.slice ao n c) l) : ∀ ad, ao = some ad → ∀ j u, (flat l)[j]? = some u → w.cell? (ad.add j) = some u := by
  intro ad had j u hu
  obtain ⟨a, c', hv, hh⟩ := h.news
  injection hv with h1 h2 h3
  refine hh ad (by rw [← h1]; exact had) (fun hn => ?_) j u hu
  subst hn
  simp [flat] at hu
theorem SlI.none {w : World} {n c : Nat} {ao : Option Addr} {l : List Ins} (h : SlI w (.slice ao n c) l) (ha : ao = Option.none) : n = 0 := by
  obtain ⟨a, c', hv, _, hx⟩ := h
  injection hv with h1 h2 h3
  by_cases hl : l = []
  · subst hl; exact h2
  · obtain ⟨b, o, hb, _⟩ := hx hl
    rw [← h1, ha] at hb
    cases hb
theorem flat_row {w : World} {g : Nat} {x : Ins} (hg : w.heap[g]? = some (.cells x.cells.toArray 33 (0, 0))) : ∀ ad : Addr, (some ⟨g, 0, Option.none⟩ : Option Addr) = some ad → ∀ j u, (flat [x])[j]? = some u → w.cell? (ad.add j) = some u := by
  intro ad had j u hu
  injection had with had
  subst had
  rw [add_cell]
  simp only [World.cell?, hg, Nat.zero_add]
  simpa [flat] using hu
/-- Behind region 5. -/
def MoreA (w1 : World) (q : List Ins) (v : Value) (W : World) : Prop := OwnI W w1.heap.size v q ∧ Below w1.heap.size w1 W
def MoreB (w2 : World) (v : Value) (W : World) : Prop := v = .bool false ∧ Below w2.heap.size w2 W
theorem far_step (l : List Ins) (k : Nat) (y : Ins) (h : l[k]? = some y) : farMost (l.take (k + 1)) = max (farMost (l.take k)) y.to := by
  unfold farMost
  rw [List.take_add_one, h, Option.toList_some, List.foldl_append]
  rfl
set_option maxRecDepth 100000 in
set_option maxHeartbeats 1000000 in
theorem more_any (l : List Ins) (x : Ins) (ao : Option Addr) (c : Nat) (w : World) (hG : Glob w) (hS : SlI w (.slice ao l.length c) l) (hnil : ao = none → c = 0) (hf : ∀ y ∈ l, y.Fit) (hfx : x.Fit) (hlen : l.length ≤ 9223372036854775807) :
    Calls Tryz.prog 3 #[.slice ao l.length c, .agg x.cells.toArray] w fun e w' => e = .returned (.bool true) ∧ Below w.heap.size w w' := by
  have hright := fun W (h : SlI W (.slice ao l.length c) l) => right_any' l _ W h hf hlen
  by_cases h200 : 200 < l.length
  · have h200' : decide (200 < l.length) = true := by simpa using h200
    go_enter Tryz.func3, Tryz.ntmps3
    go_wp2_with (first | (go_at_call 13; (with_reducible refine (awake_any _ (by exact hG.alloc _)).mono ?_); rintro e w1 ⟨rfl, hb1⟩))
    go_ret
    exact ⟨rfl, ((Below.refl _ _).alloc (Nat.le_refl _) _).trans (hb1.mono (by simp))⟩
  have h200' : decide (200 < l.length) = false := by simpa using h200
  cases hr : progRight l with
  | false =>
    rw [hr] at hright
    have Hr := Lib.hid hr
    clear hr
    go_enter Tryz.func3, Tryz.ntmps3
    go_wp2_with (first | (go_at_call 13; (with_reducible refine (awake_any _ (by exact hG.alloc _)).mono ?_); rintro e w1 ⟨rfl, hb1⟩; have hS1 := (hS.below ((Below.refl _ _).alloc (Nat.le_refl _) (.cells x.cells.toArray 33))).below hb1) | (go_at_call 14; (with_reducible refine (hright _ hS1).mono ?_); rintro e w2 ⟨rfl, hb2⟩))
    go_ret
    exact ⟨rfl, (((Below.refl _ _).alloc (Nat.le_refl _) _).trans (hb1.mono (by simp))).trans (hb2.mono (by have := hb1.size; simp at this; omega))⟩
  | true =>
    rw [hr] at hright
    have Hr := Lib.hid hr
    clear hr
    go_enter Tryz.func3, Tryz.ntmps3
    go_upto_region 5 with (first | (go_at_call 13; (with_reducible refine (awake_any _ (by exact hG.alloc _)).mono ?_); rintro e w1 ⟨rfl, hb1⟩; have hS1 := (hS.below ((Below.refl _ _).alloc (Nat.le_refl _) (.cells x.cells.toArray 33))).below hb1) | (go_at_call 14; (with_reducible refine (hright _ hS1).mono ?_); rintro e w2 ⟨rfl, hb2⟩))
    have hB1 : Below w.heap.size w w1 := ((Below.refl _ _).alloc (Nat.le_refl _) _).trans (hb1.mono (by simp))
    have hB2 : Below w.heap.size w w2 := hB1.trans (hb2.mono hB1.size)
    have hS2 := hS1.below hb2
    have hrow := (hb2.block w.heap.size (by have := hb1.size; simp at this; omega)).trans ((hb1.block w.heap.size (by simp)).trans (heap_alloc_new w (.cells x.cells.toArray 33)))
    have hG2 := hG.below hB2
    clear hb1 hb2 hB1 hS1
    obtain ⟨B, hBs⟩ : ∃ B, B = w2.heap.size := ⟨_, rfl⟩
    have hlt := heap_lt hrow
    go_cut [5] (MoreA w2 (l ++ [x]))
    case first =>
      have hnone : ao = none → l.length = 0 ∧ c = 0 := fun h => ⟨hS2.none h, hnil h⟩
      have hBd : Below w2.heap.size w2 w2.drew := (Below.refl _ _).drew
      refine region_start (S := (fun W => Below w2.heap.size w2 W)) 7 rfl #[false, false, false, false, false, false, false] rfl (by kernel_rfl) ?_
      refine region_s ?_ ?_
      · first | exact hBd | exact hB0 | exact hB2a | exact hB4 | exact hB5 | trivial
      intro hS
      refine region_take (i := 1) (oi := ⟨(some 19), (Op.move (Operand.tmp 0)), 22, _, _, none⟩) (v := ?_) #[false, true, false, false, false, false, false] rfl (by kernel_rfl) (by kernel_rfl) (by kernel_rfl) (fun _ _ _ h => h) hS ?_ rfl ?_
      rotate_left
      · refine Or.inl ⟨rfl, fun W hW => ?_⟩
        dsimp only at hW
        go_simp
        try rfl
      try simp only [Act.put, List.setIfInBounds_toArray, List.set_cons_zero, List.set_cons_succ]
      refine region_take (i := 3) (oi := ⟨(some 21), (Op.load 33 (Operand.tmp 3)), 33, _, _, none⟩) (v := ?_) #[false, true, false, true, false, false, false] rfl (by kernel_rfl) (by kernel_rfl) (by kernel_rfl) (fun _ _ _ h => h) hS ?_ rfl ?_
      rotate_left
      · refine Or.inl ⟨rfl, fun W hW => ?_⟩
        dsimp only at hW
        (refine ldRow33 _ _ _ _ _ _ _ _ w.heap.size x.cells ?_ ((hW.block _ hlt).trans hrow) ?_; (· rfl); (· kernel_rfl))
      try simp only [Act.put, List.setIfInBounds_toArray, List.set_cons_zero, List.set_cons_succ]
      refine region_two (i := 0) (j := 4) (oi := ⟨(some 18), (Op.buildSlice 22 0 #[]), 22, _, _, none⟩) (oj := ⟨(some 22), (Op.buildSlice 22 1 #[(0, (Operand.tmp 21))]), 22, _, _, none⟩) #[true, true, false, true, false, false, false] #[false, true, false, true, true, false, false] rfl rfl (by kernel_rfl) rfl rfl rfl rfl ?_ ?_
      · intro K hK
        go_simp; have hB0 : Below w2.heap.size w2 (w2.drew.alloc (.cells #[] 33)) := (hBd).alloc (by have := (hBd).size; omega) _; have hE0 := heap_alloc_at w2.drew (.cells #[] 33) w2.heap.size (by first | (rw [size_alloc1]; rfl) | rfl)
        refine hK _ _ ⟨?_, fun hS => ?_⟩
        · first | exact hBd | exact hB0 | exact hB2a | exact hB4 | exact hB5 | trivial
        try simp only [Act.put, List.setIfInBounds_toArray, List.set_cons_zero, List.set_cons_succ]
        refine region_two (i := 2) (j := 4) (oi := ⟨(some 20), (Op.call { callee := (Callee.builtin Builtin.append), args := #[(Operand.tmp 18), (Operand.tmp 19)], argTypes := #[22, 22] }), 22, _, _, none⟩) (oj := ⟨(some 22), (Op.buildSlice 22 1 #[(0, (Operand.tmp 21))]), 22, _, _, none⟩) #[true, true, true, true, false, false, false] #[true, true, false, true, true, false, false] rfl rfl (by kernel_rfl) rfl rfl rfl rfl ?_ ?_
        · intro K hK
          refine wp_appI _ _ rfl w2.heap.size (.slice (some ⟨w2.heap.size, 0, none⟩) 0 0) [] l l.length c ao rfl rfl rfl (OwnI.empty hE0 (by omega)) hnone (hS2.below hB0).hc (by simp; omega) (hB0).size ?_; intro v3 w3 hown3 hg3; have hB2a : Below w2.heap.size w2 w3 := (hB0).trans ((OwnI.empty hE0 (by omega)).grown hg3 (hB0).size)
          refine hK _ _ ⟨?_, fun hS => ?_⟩
          · first | exact hBd | exact hB0 | exact hB2a | exact hB4 | exact hB5 | trivial
          try simp only [Act.put, List.setIfInBounds_toArray, List.set_cons_zero, List.set_cons_succ]
          refine region_op (i := 4) (oi := ⟨(some 22), (Op.buildSlice 22 1 #[(0, (Operand.tmp 21))]), 22, _, _, none⟩) #[true, true, true, true, true, false, false] rfl (by kernel_rfl) rfl rfl ?_
          intro K hK
          go_simp; have hB4 : Below w2.heap.size w2 (w3.alloc (.cells x.cells.toArray 33)) := (hB2a).alloc (by have := (hB2a).size; omega) _; have hX := heap_alloc_at w3 (.cells x.cells.toArray 33) w3.heap.size (by first | (rw [size_alloc1]; rfl) | rfl); have hown4 := hown3.below ((Below.refl w3.heap.size w3).alloc (Nat.le_refl _) (.cells x.cells.toArray 33))
          refine hK _ _ ⟨?_, fun hS => ?_⟩
          · first | exact hBd | exact hB0 | exact hB2a | exact hB4 | exact hB5 | trivial
          try simp only [Act.put, List.setIfInBounds_toArray, List.set_cons_zero, List.set_cons_succ]
          refine region_op (i := 5) (oi := ⟨(some 23), (Op.call { callee := (Callee.builtin Builtin.append), args := #[(Operand.tmp 20), (Operand.tmp 22)], argTypes := #[22, 22] }), 22, _, _, none⟩) #[true, true, true, true, true, true, false] rfl (by kernel_rfl) rfl rfl ?_
          intro K hK
          refine wp_appI _ _ rfl w2.heap.size v3 _ [x] 1 1 (some ⟨w3.heap.size, 0, none⟩) rfl rfl rfl hown4 (fun h => by cases h) (flat_row hX) (by simp; omega) (hB4).size ?_; intro v5 w5 hown5 hg5; have hB5 : Below w2.heap.size w2 w5 := (hB4).trans ((hown4).grown hg5 (hB4).size)
          refine hK _ _ ⟨?_, fun hS => ?_⟩
          · first | exact hBd | exact hB0 | exact hB2a | exact hB4 | exact hB5 | trivial
          try simp only [Act.put, List.setIfInBounds_toArray, List.set_cons_zero, List.set_cons_succ]
          refine region_take (i := 6) (oi := ⟨(some 5), (Op.assign (Operand.tmp 23)), 22, _, _, none⟩) (v := ?_) #[true, true, true, true, true, true, true] rfl (by kernel_rfl) (by kernel_rfl) (by kernel_rfl) (fun _ _ _ h => h) hS ?_ rfl ?_
          rotate_left
          · refine Or.inl ⟨rfl, fun W hW => ?_⟩
            dsimp only at hW
            go_simp
            try rfl
          try simp only [Act.put, List.setIfInBounds_toArray, List.set_cons_zero, List.set_cons_succ]
          refine wpAnyH_done (by kernel_rfl) ?_ _
          go_wp2_with fail
          go_meet
          case rel => exact ⟨hown5, hB5⟩
        · intro K hK
          go_simp; have hB4 : Below w2.heap.size w2 ((w2.drew.alloc (.cells #[] 33)).alloc (.cells x.cells.toArray 33)) := (hB0).alloc (by have := (hB0).size; omega) _; have hX := heap_alloc_at (w2.drew.alloc (.cells #[] 33)) (.cells x.cells.toArray 33) (w2.heap.size + 1) (by first | (rw [size_alloc1]; rfl) | rfl); have hE1 := (Below.heap_alloc (w2.drew.alloc (.cells #[] 33)) (.cells x.cells.toArray 33) _ (heap_lt hE0)).trans hE0
          refine hK _ _ ⟨?_, fun hS => ?_⟩
          · first | exact hBd | exact hB0 | exact hB2a | exact hB4 | exact hB5 | trivial
          try simp only [Act.put, List.setIfInBounds_toArray, List.set_cons_zero, List.set_cons_succ]
          refine region_op (i := 2) (oi := ⟨(some 20), (Op.call { callee := (Callee.builtin Builtin.append), args := #[(Operand.tmp 18), (Operand.tmp 19)], argTypes := #[22, 22] }), 22, _, _, none⟩) #[true, true, true, true, true, false, false] rfl (by kernel_rfl) rfl rfl ?_
          intro K hK
          refine wp_appI _ _ rfl w2.heap.size (.slice (some ⟨w2.heap.size, 0, none⟩) 0 0) [] l l.length c ao rfl rfl rfl (OwnI.empty hE1 (by omega)) hnone (hS2.below hB4).hc (by simp; omega) (hB4).size ?_; intro v3 w3 hown3 hg3; have hB2a : Below w2.heap.size w2 w3 := (hB4).trans ((OwnI.empty hE1 (by omega)).grown hg3 (hB4).size); have hX3 := (hg3.block _ (heap_lt hX) (by simp [Value.ownBlock])).trans hX
          refine hK _ _ ⟨?_, fun hS => ?_⟩
          · first | exact hBd | exact hB0 | exact hB2a | exact hB4 | exact hB5 | trivial
          try simp only [Act.put, List.setIfInBounds_toArray, List.set_cons_zero, List.set_cons_succ]
          refine region_op (i := 5) (oi := ⟨(some 23), (Op.call { callee := (Callee.builtin Builtin.append), args := #[(Operand.tmp 20), (Operand.tmp 22)], argTypes := #[22, 22] }), 22, _, _, none⟩) #[true, true, true, true, true, true, false] rfl (by kernel_rfl) rfl rfl ?_
          intro K hK
          refine wp_appI _ _ rfl w2.heap.size v3 _ [x] 1 1 (some ⟨(w2.heap.size + 1), 0, none⟩) rfl rfl rfl hown3 (fun h => by cases h) (flat_row hX3) (by simp; omega) (hB2a).size ?_; intro v5 w5 hown5 hg5; have hB5 : Below w2.heap.size w2 w5 := (hB2a).trans ((hown3).grown hg5 (hB2a).size)
          refine hK _ _ ⟨?_, fun hS => ?_⟩
          · first | exact hBd | exact hB0 | exact hB2a | exact hB4 | exact hB5 | trivial
          try simp only [Act.put, List.setIfInBounds_toArray, List.set_cons_zero, List.set_cons_succ]
          refine region_take (i := 6) (oi := ⟨(some 5), (Op.assign (Operand.tmp 23)), 22, _, _, none⟩) (v := ?_) #[true, true, true, true, true, true, true] rfl (by kernel_rfl) (by kernel_rfl) (by kernel_rfl) (fun _ _ _ h => h) hS ?_ rfl ?_
          rotate_left
          · refine Or.inl ⟨rfl, fun W hW => ?_⟩
            dsimp only at hW
            go_simp
            try rfl
          try simp only [Act.put, List.setIfInBounds_toArray, List.set_cons_zero, List.set_cons_succ]
          refine wpAnyH_done (by kernel_rfl) ?_ _
          go_wp2_with fail
          go_meet
          case rel => exact ⟨hown5, hB5⟩
      · intro K hK
        go_simp; have hB4 : Below w2.heap.size w2 (w2.drew.alloc (.cells x.cells.toArray 33)) := (hBd).alloc (by have := (hBd).size; omega) _; have hX := heap_alloc_at w2.drew (.cells x.cells.toArray 33) w2.heap.size (by first | (rw [size_alloc1]; rfl) | rfl)
        refine hK _ _ ⟨?_, fun hS => ?_⟩
        · first | exact hBd | exact hB0 | exact hB2a | exact hB4 | exact hB5 | trivial
        try simp only [Act.put, List.setIfInBounds_toArray, List.set_cons_zero, List.set_cons_succ]
        refine region_op (i := 0) (oi := ⟨(some 18), (Op.buildSlice 22 0 #[]), 22, _, _, none⟩) #[true, true, false, true, true, false, false] rfl (by kernel_rfl) rfl rfl ?_
        intro K hK
        go_simp; have hB0 : Below w2.heap.size w2 ((w2.drew.alloc (.cells x.cells.toArray 33)).alloc (.cells #[] 33)) := (hB4).alloc (by have := (hB4).size; omega) _; have hE0 := heap_alloc_at (w2.drew.alloc (.cells x.cells.toArray 33)) (.cells #[] 33) (w2.heap.size + 1) (by first | (rw [size_alloc1]; rfl) | rfl); have hX1 := (Below.heap_alloc (w2.drew.alloc (.cells x.cells.toArray 33)) (.cells #[] 33) _ (heap_lt hX)).trans hX
        refine hK _ _ ⟨?_, fun hS => ?_⟩
        · first | exact hBd | exact hB0 | exact hB2a | exact hB4 | exact hB5 | trivial
        try simp only [Act.put, List.setIfInBounds_toArray, List.set_cons_zero, List.set_cons_succ]
        refine region_op (i := 2) (oi := ⟨(some 20), (Op.call { callee := (Callee.builtin Builtin.append), args := #[(Operand.tmp 18), (Operand.tmp 19)], argTypes := #[22, 22] }), 22, _, _, none⟩) #[true, true, true, true, true, false, false] rfl (by kernel_rfl) rfl rfl ?_
        intro K hK
        refine wp_appI _ _ rfl w2.heap.size (.slice (some ⟨(w2.heap.size + 1), 0, none⟩) 0 0) [] l l.length c ao rfl rfl rfl (OwnI.empty hE0 (by omega)) hnone (hS2.below hB0).hc (by simp; omega) (hB0).size ?_; intro v3 w3 hown3 hg3; have hB2a : Below w2.heap.size w2 w3 := (hB0).trans ((OwnI.empty hE0 (by omega)).grown hg3 (hB0).size); have hX3 := (hg3.block _ (heap_lt hX1) (by simp [Value.ownBlock])).trans hX1
        refine hK _ _ ⟨?_, fun hS => ?_⟩
        · first | exact hBd | exact hB0 | exact hB2a | exact hB4 | exact hB5 | trivial
        try simp only [Act.put, List.setIfInBounds_toArray, List.set_cons_zero, List.set_cons_succ]
        refine region_op (i := 5) (oi := ⟨(some 23), (Op.call { callee := (Callee.builtin Builtin.append), args := #[(Operand.tmp 20), (Operand.tmp 22)], argTypes := #[22, 22] }), 22, _, _, none⟩) #[true, true, true, true, true, true, false] rfl (by kernel_rfl) rfl rfl ?_
        intro K hK
        refine wp_appI _ _ rfl w2.heap.size v3 _ [x] 1 1 (some ⟨w2.heap.size, 0, none⟩) rfl rfl rfl hown3 (fun h => by cases h) (flat_row hX3) (by simp; omega) (hB2a).size ?_; intro v5 w5 hown5 hg5; have hB5 : Below w2.heap.size w2 w5 := (hB2a).trans ((hown3).grown hg5 (hB2a).size)
        refine hK _ _ ⟨?_, fun hS => ?_⟩
        · first | exact hBd | exact hB0 | exact hB2a | exact hB4 | exact hB5 | trivial
        try simp only [Act.put, List.setIfInBounds_toArray, List.set_cons_zero, List.set_cons_succ]
        refine region_take (i := 6) (oi := ⟨(some 5), (Op.assign (Operand.tmp 23)), 22, _, _, none⟩) (v := ?_) #[true, true, true, true, true, true, true] rfl (by kernel_rfl) (by kernel_rfl) (by kernel_rfl) (fun _ _ _ h => h) hS ?_ rfl ?_
        rotate_left
        · refine Or.inl ⟨rfl, fun W hW => ?_⟩
          dsimp only at hW
          go_simp
          try rfl
        try simp only [Act.put, List.setIfInBounds_toArray, List.set_cons_zero, List.set_cons_succ]
        refine wpAnyH_done (by kernel_rfl) ?_ _
        go_wp2_with fail
        go_meet
        case rel => exact ⟨hown5, hB5⟩
    case rest =>
      obtain ⟨hown, hBc⟩ := hcut
      obtain ⟨a5, c5, hv5, _⟩ := hown.sl
      rw [show (l ++ [x]).length = l.length + 1 by simp] at hv5
      subst hv5
      have hrowc := (hBc.block _ hlt).trans hrow
      have hltc := heap_lt hrowc
      have hc5 := rowc hrowc 5
      simp only [Ins.cells, List.getElem?_cons_zero, List.getElem?_cons_succ] at hc5
      have hrq := fun W (h : SlI W (.slice a5 (l.length + 1) c5) (l ++ [x])) => right_any' (l ++ [x]) _ W h (by
        intro y hy
        rcases List.mem_append.1 hy with h | h
        · exact hf y h
        · rw [List.mem_singleton.1 h]; exact hfx) (by simp; omega)
      have hsn := right_snoc l x Hr.out
      rw [show (l ++ [x]).length = l.length + 1 by simp] at hsn
      have hSq := hown.sl.below ((Below.refl wc.heap.size wc).drew)
      have hins := fun W => instr_any x hfx W
      have hSc := hS2.below hBc
      have hBcd : Below wc.heap.size wc wc.drew := (Below.refl _ _).drew
      go_upto_region 6 with fail
      go_cut [40] (MoreB w2)
      case first =>
        cases h1 : insRight x with
        | false =>
          rw [h1] at hsn hins
          rw [Bool.false_and] at hsn
          simp only [hsn] at hrq
          refine region_start (S := (fun W => Below wc.heap.size wc W)) 17 rfl #[false, false, false, false, false, false, false, false, false, false, false, false, false, false, false, false, false] rfl (by kernel_rfl) ?_
          refine region_s ?_ ?_
          · first | exact hBcd | exact hB6 | exact hB7
          intro hS
          refine region_take (i := 0) (oi := ⟨(some 24), (Op.move (Operand.tmp 5)), 22, _, _, none⟩) (v := ?_) #[true, false, false, false, false, false, false, false, false, false, false, false, false, false, false, false, false] rfl (by kernel_rfl) (by kernel_rfl) (by kernel_rfl) (fun _ _ _ h => h) hS ?_ rfl ?_
          rotate_left
          · refine Or.inl ⟨rfl, fun W hW => ?_⟩
            dsimp only at hW
            have hx5 := (hW.cell (p := ⟨w.heap.size, 5, none⟩) hltc).trans hc5
            go_simp
            try rfl
          try simp only [Act.put, List.setIfInBounds_toArray, List.set_cons_zero, List.set_cons_succ]
          refine region_take (i := 2) (oi := ⟨(some 26), (Op.load 33 (Operand.tmp 3)), 33, _, _, none⟩) (v := ?_) #[true, false, true, false, false, false, false, false, false, false, false, false, false, false, false, false, false] rfl (by kernel_rfl) (by kernel_rfl) (by kernel_rfl) (fun _ _ _ h => h) hS ?_ rfl ?_
          rotate_left
          · refine Or.inl ⟨rfl, fun W hW => ?_⟩
            dsimp only at hW
            have hx5 := (hW.cell (p := ⟨w.heap.size, 5, none⟩) hltc).trans hc5
            (refine ldRow33 _ _ _ _ _ _ _ _ w.heap.size x.cells ?_ ((hW.block _ hltc).trans hrowc) ?_; (· rfl); (· kernel_rfl))
          try simp only [Act.put, List.setIfInBounds_toArray, List.set_cons_zero, List.set_cons_succ]
          refine region_op (i := 1) (oi := ⟨(some 25), (Op.call { callee := (Callee.value (Operand.func 14)), args := #[(Operand.tmp 24)], argTypes := #[22] }), 4, _, _, none⟩) #[true, true, true, false, false, false, false, false, false, false, false, false, false, false, false, false, false] rfl (by kernel_rfl) rfl rfl ?_
          intro K hK
          go_simp; refine (hrq _ hSq).mono ?_; rintro e w6 ⟨rfl, hb6⟩; have hB6 : Below wc.heap.size wc w6 := hBcd.trans (hb6.mono hBcd.size)
          refine hK _ _ ⟨?_, fun hS => ?_⟩
          · first | exact hBcd | exact hB6 | exact hB7
          try simp only [Act.put, List.setIfInBounds_toArray, List.set_cons_zero, List.set_cons_succ]
          refine region_op (i := 3) (oi := ⟨(some 27), (Op.call { callee := (Callee.value (Operand.func 15)), args := #[(Operand.tmp 26)], argTypes := #[33] }), 4, _, _, none⟩) #[true, true, true, true, false, false, false, false, false, false, false, false, false, false, false, false, false] rfl (by kernel_rfl) rfl rfl ?_
          intro K hK
          go_simp; refine (hins _).mono ?_; rintro e w7 ⟨rfl, hb7⟩; have hB7 : Below wc.heap.size wc w7 := hB6.trans (hb7.mono hB6.size)
          refine hK _ _ ⟨?_, fun hS => ?_⟩
          · first | exact hBcd | exact hB6 | exact hB7
          try simp only [Act.put, List.setIfInBounds_toArray, List.set_cons_zero, List.set_cons_succ]
          refine region_take (i := 4) (oi := ⟨(some 28), (Op.move (Operand.tmp 27)), 4, _, _, none⟩) (v := ?_) #[true, true, true, true, true, false, false, false, false, false, false, false, false, false, false, false, false] rfl (by kernel_rfl) (by kernel_rfl) (by kernel_rfl) (fun _ _ _ h => h) hS ?_ rfl ?_
          rotate_left
          · refine Or.inl ⟨rfl, fun W hW => ?_⟩
            dsimp only at hW
            have hx5 := (hW.cell (p := ⟨w.heap.size, 5, none⟩) hltc).trans hc5
            go_simp
            try rfl
          try simp only [Act.put, List.setIfInBounds_toArray, List.set_cons_zero, List.set_cons_succ]
          refine region_take (i := 5) (oi := ⟨(some 29), (Op.fieldAddr 33 (Operand.tmp 3) 5), 0, _, _, (some (4, true))⟩) (v := undef) #[true, true, true, true, true, true, false, false, false, false, false, false, false, false, false, false, false] rfl (by kernel_rfl) (by kernel_rfl) (by kernel_rfl) (fun _ _ _ h => h) hS ?_ rfl ?_
          · exact Or.inr ⟨rfl, rfl⟩
          try simp only [Act.put, List.setIfInBounds_toArray, List.set_cons_zero, List.set_cons_succ]
          refine region_take (i := 6) (oi := ⟨(some 30), (Op.load 3 (Operand.tmp 29)), 3, _, _, (some (4, true))⟩) (v := undef) #[true, true, true, true, true, true, true, false, false, false, false, false, false, false, false, false, false] rfl (by kernel_rfl) (by kernel_rfl) (by kernel_rfl) (fun _ _ _ h => h) hS ?_ rfl ?_
          · exact Or.inr ⟨rfl, rfl⟩
          try simp only [Act.put, List.setIfInBounds_toArray, List.set_cons_zero, List.set_cons_succ]
          refine region_take (i := 7) (oi := ⟨(some 31), (Op.move (Operand.tmp 5)), 22, _, _, (some (4, true))⟩) (v := undef) #[true, true, true, true, true, true, true, true, false, false, false, false, false, false, false, false, false] rfl (by kernel_rfl) (by kernel_rfl) (by kernel_rfl) (fun _ _ _ h => h) hS ?_ rfl ?_
          · exact Or.inr ⟨rfl, rfl⟩
          try simp only [Act.put, List.setIfInBounds_toArray, List.set_cons_zero, List.set_cons_succ]
          refine region_take (i := 8) (oi := ⟨(some 32), (Op.call { callee := (Callee.builtin Builtin.len), args := #[(Operand.tmp 31)], argTypes := #[22] }), 3, _, _, (some (4, true))⟩) (v := undef) #[true, true, true, true, true, true, true, true, true, false, false, false, false, false, false, false, false] rfl (by kernel_rfl) (by kernel_rfl) (by kernel_rfl) (fun _ _ _ h => h) hS ?_ rfl ?_
          · exact Or.inr ⟨rfl, rfl⟩
          try simp only [Act.put, List.setIfInBounds_toArray, List.set_cons_zero, List.set_cons_succ]
          refine region_take (i := 9) (oi := ⟨(some 33), (Op.binOp BinOp.leq 3 (Operand.tmp 30) (Operand.tmp 32) 3), 4, _, _, (some (4, true))⟩) (v := undef) #[true, true, true, true, true, true, true, true, true, true, false, false, false, false, false, false, false] rfl (by kernel_rfl) (by kernel_rfl) (by kernel_rfl) (fun _ _ _ h => h) hS ?_ rfl ?_
          · exact Or.inr ⟨rfl, rfl⟩
          try simp only [Act.put, List.setIfInBounds_toArray, List.set_cons_zero, List.set_cons_succ]
          refine region_take (i := 10) (oi := ⟨(some 34), (Op.pick (Operand.tmp 28) (Operand.tmp 33) (Operand.const (Value.bool false))), 4, _, _, none⟩) (v := ?_) #[true, true, true, true, true, true, true, true, true, true, true, false, false, false, false, false, false] rfl (by kernel_rfl) (by kernel_rfl) (by kernel_rfl) (fun _ _ _ h => h) hS ?_ rfl ?_
          rotate_left
          · refine Or.inl ⟨rfl, fun W hW => ?_⟩
            dsimp only at hW
            have hx5 := (hW.cell (p := ⟨w.heap.size, 5, none⟩) hltc).trans hc5
            go_simp
            try rfl
          try simp only [Act.put, List.setIfInBounds_toArray, List.set_cons_zero, List.set_cons_succ]
          refine region_take (i := 11) (oi := ⟨(some 35), (Op.move (Operand.tmp 34)), 4, _, _, none⟩) (v := ?_) #[true, true, true, true, true, true, true, true, true, true, true, true, false, false, false, false, false] rfl (by kernel_rfl) (by kernel_rfl) (by kernel_rfl) (fun _ _ _ h => h) hS ?_ rfl ?_
          rotate_left
          · refine Or.inl ⟨rfl, fun W hW => ?_⟩
            dsimp only at hW
            have hx5 := (hW.cell (p := ⟨w.heap.size, 5, none⟩) hltc).trans hc5
            go_simp
            try rfl
          try simp only [Act.put, List.setIfInBounds_toArray, List.set_cons_zero, List.set_cons_succ]
          refine region_take (i := 12) (oi := ⟨(some 36), (Op.move (Operand.tmp 0)), 22, _, _, (some (11, true))⟩) (v := undef) #[true, true, true, true, true, true, true, true, true, true, true, true, true, false, false, false, false] rfl (by kernel_rfl) (by kernel_rfl) (by kernel_rfl) (fun _ _ _ h => h) hS ?_ rfl ?_
          · exact Or.inr ⟨rfl, rfl⟩
          try simp only [Act.put, List.setIfInBounds_toArray, List.set_cons_zero, List.set_cons_succ]
          refine region_take (i := 13) (oi := ⟨(some 37), (Op.call { callee := (Callee.builtin Builtin.len), args := #[(Operand.tmp 36)], argTypes := #[22] }), 3, _, _, (some (11, true))⟩) (v := undef) #[true, true, true, true, true, true, true, true, true, true, true, true, true, true, false, false, false] rfl (by kernel_rfl) (by kernel_rfl) (by kernel_rfl) (fun _ _ _ h => h) hS ?_ rfl ?_
          · exact Or.inr ⟨rfl, rfl⟩
          try simp only [Act.put, List.setIfInBounds_toArray, List.set_cons_zero, List.set_cons_succ]
          refine region_take (i := 14) (oi := ⟨(some 38), (Op.binOp BinOp.lss 3 (Operand.tmp 37) (Operand.const (Value.int IntKind.i64 64)) 3), 4, _, _, (some (11, true))⟩) (v := undef) #[true, true, true, true, true, true, true, true, true, true, true, true, true, true, true, false, false] rfl (by kernel_rfl) (by kernel_rfl) (by kernel_rfl) (fun _ _ _ h => h) hS ?_ rfl ?_
          · exact Or.inr ⟨rfl, rfl⟩
          try simp only [Act.put, List.setIfInBounds_toArray, List.set_cons_zero, List.set_cons_succ]
          refine region_take (i := 15) (oi := ⟨(some 39), (Op.pick (Operand.tmp 35) (Operand.tmp 38) (Operand.const (Value.bool false))), 4, _, _, none⟩) (v := ?_) #[true, true, true, true, true, true, true, true, true, true, true, true, true, true, true, true, false] rfl (by kernel_rfl) (by kernel_rfl) (by kernel_rfl) (fun _ _ _ h => h) hS ?_ rfl ?_
          rotate_left
          · refine Or.inl ⟨rfl, fun W hW => ?_⟩
            dsimp only at hW
            have hx5 := (hW.cell (p := ⟨w.heap.size, 5, none⟩) hltc).trans hc5
            go_simp
            try rfl
          try simp only [Act.put, List.setIfInBounds_toArray, List.set_cons_zero, List.set_cons_succ]
          refine region_take (i := 16) (oi := ⟨(some 40), (Op.binOp BinOp.neq 4 (Operand.tmp 25) (Operand.tmp 39) 4), 4, _, _, none⟩) (v := ?_) #[true, true, true, true, true, true, true, true, true, true, true, true, true, true, true, true, true] rfl (by kernel_rfl) (by kernel_rfl) (by kernel_rfl) (fun _ _ _ h => h) hS ?_ rfl ?_
          rotate_left
          · refine Or.inl ⟨rfl, fun W hW => ?_⟩
            dsimp only at hW
            have hx5 := (hW.cell (p := ⟨w.heap.size, 5, none⟩) hltc).trans hc5
            go_simp
            try rfl
          try simp only [Act.put, List.setIfInBounds_toArray, List.set_cons_zero, List.set_cons_succ]
          refine wpAnyH_done (by kernel_rfl) ?_ _
          go_wp2_with fail
          go_meet
          case rel => exact ⟨rfl, hBc.trans (hB7.mono hBc.size)⟩
        | true =>
          rw [h1] at hsn hins
          rw [Bool.true_and] at hsn
          by_cases h2 : x.to ≤ (l.length : Int) + 1
          · have h2' : decide (x.to ≤ ((l.length + 1 : Nat) : Int)) = true := by rw [decide_eq_true_eq]; omega
            have h2i : decide (x.to ≤ (l.length : Int) + 1) = true := by rw [decide_eq_true_eq]; omega
            rw [h2', Bool.true_and] at hsn
            clear h2'
            by_cases h3 : l.length < 64
            · have h3' : decide (l.length < 64) = true := by simpa using h3
              have h3i : (l.length : Int) < 64 := by omega
              rw [h3'] at hsn
              simp only [hsn] at hrq
              refine region_start (S := (fun W => Below wc.heap.size wc W)) 17 rfl #[false, false, false, false, false, false, false, false, false, false, false, false, false, false, false, false, false] rfl (by kernel_rfl) ?_
              refine region_s ?_ ?_
              · first | exact hBcd | exact hB6 | exact hB7
              intro hS
              refine region_take (i := 0) (oi := ⟨(some 24), (Op.move (Operand.tmp 5)), 22, _, _, none⟩) (v := ?_) #[true, false, false, false, false, false, false, false, false, false, false, false, false, false, false, false, false] rfl (by kernel_rfl) (by kernel_rfl) (by kernel_rfl) (fun _ _ _ h => h) hS ?_ rfl ?_
              rotate_left
              · refine Or.inl ⟨rfl, fun W hW => ?_⟩
                dsimp only at hW
                have hx5 := (hW.cell (p := ⟨w.heap.size, 5, none⟩) hltc).trans hc5
                go_simp
                try rfl
              try simp only [Act.put, List.setIfInBounds_toArray, List.set_cons_zero, List.set_cons_succ]
              refine region_take (i := 2) (oi := ⟨(some 26), (Op.load 33 (Operand.tmp 3)), 33, _, _, none⟩) (v := ?_) #[true, false, true, false, false, false, false, false, false, false, false, false, false, false, false, false, false] rfl (by kernel_rfl) (by kernel_rfl) (by kernel_rfl) (fun _ _ _ h => h) hS ?_ rfl ?_
              rotate_left
              · refine Or.inl ⟨rfl, fun W hW => ?_⟩
                dsimp only at hW
                have hx5 := (hW.cell (p := ⟨w.heap.size, 5, none⟩) hltc).trans hc5
                (refine ldRow33 _ _ _ _ _ _ _ _ w.heap.size x.cells ?_ ((hW.block _ hltc).trans hrowc) ?_; (· rfl); (· kernel_rfl))
              try simp only [Act.put, List.setIfInBounds_toArray, List.set_cons_zero, List.set_cons_succ]
              refine region_op (i := 1) (oi := ⟨(some 25), (Op.call { callee := (Callee.value (Operand.func 14)), args := #[(Operand.tmp 24)], argTypes := #[22] }), 4, _, _, none⟩) #[true, true, true, false, false, false, false, false, false, false, false, false, false, false, false, false, false] rfl (by kernel_rfl) rfl rfl ?_
              intro K hK
              go_simp; refine (hrq _ hSq).mono ?_; rintro e w6 ⟨rfl, hb6⟩; have hB6 : Below wc.heap.size wc w6 := hBcd.trans (hb6.mono hBcd.size)
              refine hK _ _ ⟨?_, fun hS => ?_⟩
              · first | exact hBcd | exact hB6 | exact hB7
              try simp only [Act.put, List.setIfInBounds_toArray, List.set_cons_zero, List.set_cons_succ]
              refine region_op (i := 3) (oi := ⟨(some 27), (Op.call { callee := (Callee.value (Operand.func 15)), args := #[(Operand.tmp 26)], argTypes := #[33] }), 4, _, _, none⟩) #[true, true, true, true, false, false, false, false, false, false, false, false, false, false, false, false, false] rfl (by kernel_rfl) rfl rfl ?_
              intro K hK
              go_simp; refine (hins _).mono ?_; rintro e w7 ⟨rfl, hb7⟩; have hB7 : Below wc.heap.size wc w7 := hB6.trans (hb7.mono hB6.size)
              refine hK _ _ ⟨?_, fun hS => ?_⟩
              · first | exact hBcd | exact hB6 | exact hB7
              try simp only [Act.put, List.setIfInBounds_toArray, List.set_cons_zero, List.set_cons_succ]
              refine region_take (i := 4) (oi := ⟨(some 28), (Op.move (Operand.tmp 27)), 4, _, _, none⟩) (v := ?_) #[true, true, true, true, true, false, false, false, false, false, false, false, false, false, false, false, false] rfl (by kernel_rfl) (by kernel_rfl) (by kernel_rfl) (fun _ _ _ h => h) hS ?_ rfl ?_
              rotate_left
              · refine Or.inl ⟨rfl, fun W hW => ?_⟩
                dsimp only at hW
                have hx5 := (hW.cell (p := ⟨w.heap.size, 5, none⟩) hltc).trans hc5
                go_simp
                try rfl
              try simp only [Act.put, List.setIfInBounds_toArray, List.set_cons_zero, List.set_cons_succ]
              refine region_take (i := 5) (oi := ⟨(some 29), (Op.fieldAddr 33 (Operand.tmp 3) 5), 0, _, _, (some (4, true))⟩) (v := ?_) #[true, true, true, true, true, true, false, false, false, false, false, false, false, false, false, false, false] rfl (by kernel_rfl) (by kernel_rfl) (by kernel_rfl) (fun _ _ _ h => h) hS ?_ rfl ?_
              rotate_left
              · refine Or.inl ⟨rfl, fun W hW => ?_⟩
                dsimp only at hW
                have hx5 := (hW.cell (p := ⟨w.heap.size, 5, none⟩) hltc).trans hc5
                go_simp
                try rfl
              try simp only [Act.put, List.setIfInBounds_toArray, List.set_cons_zero, List.set_cons_succ]
              refine region_take (i := 6) (oi := ⟨(some 30), (Op.load 3 (Operand.tmp 29)), 3, _, _, (some (4, true))⟩) (v := ?_) #[true, true, true, true, true, true, true, false, false, false, false, false, false, false, false, false, false] rfl (by kernel_rfl) (by kernel_rfl) (by kernel_rfl) (fun _ _ _ h => h) hS ?_ rfl ?_
              rotate_left
              · refine Or.inl ⟨rfl, fun W hW => ?_⟩
                dsimp only at hW
                have hx5 := (hW.cell (p := ⟨w.heap.size, 5, none⟩) hltc).trans hc5
                go_simp
                try rfl
              try simp only [Act.put, List.setIfInBounds_toArray, List.set_cons_zero, List.set_cons_succ]
              refine region_take (i := 7) (oi := ⟨(some 31), (Op.move (Operand.tmp 5)), 22, _, _, (some (4, true))⟩) (v := ?_) #[true, true, true, true, true, true, true, true, false, false, false, false, false, false, false, false, false] rfl (by kernel_rfl) (by kernel_rfl) (by kernel_rfl) (fun _ _ _ h => h) hS ?_ rfl ?_
              rotate_left
              · refine Or.inl ⟨rfl, fun W hW => ?_⟩
                dsimp only at hW
                have hx5 := (hW.cell (p := ⟨w.heap.size, 5, none⟩) hltc).trans hc5
                go_simp
                try rfl
              try simp only [Act.put, List.setIfInBounds_toArray, List.set_cons_zero, List.set_cons_succ]
              refine region_take (i := 8) (oi := ⟨(some 32), (Op.call { callee := (Callee.builtin Builtin.len), args := #[(Operand.tmp 31)], argTypes := #[22] }), 3, _, _, (some (4, true))⟩) (v := ?_) #[true, true, true, true, true, true, true, true, true, false, false, false, false, false, false, false, false] rfl (by kernel_rfl) (by kernel_rfl) (by kernel_rfl) (fun _ _ _ h => h) hS ?_ rfl ?_
              rotate_left
              · refine Or.inl ⟨rfl, fun W hW => ?_⟩
                dsimp only at hW
                have hx5 := (hW.cell (p := ⟨w.heap.size, 5, none⟩) hltc).trans hc5
                go_simp
                try rfl
              try simp only [Act.put, List.setIfInBounds_toArray, List.set_cons_zero, List.set_cons_succ]
              refine region_take (i := 9) (oi := ⟨(some 33), (Op.binOp BinOp.leq 3 (Operand.tmp 30) (Operand.tmp 32) 3), 4, _, _, (some (4, true))⟩) (v := ?_) #[true, true, true, true, true, true, true, true, true, true, false, false, false, false, false, false, false] rfl (by kernel_rfl) (by kernel_rfl) (by kernel_rfl) (fun _ _ _ h => h) hS ?_ rfl ?_
              rotate_left
              · refine Or.inl ⟨rfl, fun W hW => ?_⟩
                dsimp only at hW
                have hx5 := (hW.cell (p := ⟨w.heap.size, 5, none⟩) hltc).trans hc5
                go_simp
                try rfl
              try simp only [Act.put, List.setIfInBounds_toArray, List.set_cons_zero, List.set_cons_succ]
              refine region_take (i := 10) (oi := ⟨(some 34), (Op.pick (Operand.tmp 28) (Operand.tmp 33) (Operand.const (Value.bool false))), 4, _, _, none⟩) (v := ?_) #[true, true, true, true, true, true, true, true, true, true, true, false, false, false, false, false, false] rfl (by kernel_rfl) (by kernel_rfl) (by kernel_rfl) (fun _ _ _ h => h) hS ?_ rfl ?_
              rotate_left
              · refine Or.inl ⟨rfl, fun W hW => ?_⟩
                dsimp only at hW
                have hx5 := (hW.cell (p := ⟨w.heap.size, 5, none⟩) hltc).trans hc5
                go_simp
                try rfl
              try simp only [Act.put, List.setIfInBounds_toArray, List.set_cons_zero, List.set_cons_succ]
              refine region_take (i := 11) (oi := ⟨(some 35), (Op.move (Operand.tmp 34)), 4, _, _, none⟩) (v := ?_) #[true, true, true, true, true, true, true, true, true, true, true, true, false, false, false, false, false] rfl (by kernel_rfl) (by kernel_rfl) (by kernel_rfl) (fun _ _ _ h => h) hS ?_ rfl ?_
              rotate_left
              · refine Or.inl ⟨rfl, fun W hW => ?_⟩
                dsimp only at hW
                have hx5 := (hW.cell (p := ⟨w.heap.size, 5, none⟩) hltc).trans hc5
                go_simp
                try rfl
              try simp only [Act.put, List.setIfInBounds_toArray, List.set_cons_zero, List.set_cons_succ]
              refine region_take (i := 12) (oi := ⟨(some 36), (Op.move (Operand.tmp 0)), 22, _, _, (some (11, true))⟩) (v := ?_) #[true, true, true, true, true, true, true, true, true, true, true, true, true, false, false, false, false] rfl (by kernel_rfl) (by kernel_rfl) (by kernel_rfl) (fun _ _ _ h => h) hS ?_ rfl ?_
              rotate_left
              · refine Or.inl ⟨rfl, fun W hW => ?_⟩
                dsimp only at hW
                have hx5 := (hW.cell (p := ⟨w.heap.size, 5, none⟩) hltc).trans hc5
                go_simp
                try rfl
              try simp only [Act.put, List.setIfInBounds_toArray, List.set_cons_zero, List.set_cons_succ]
              refine region_take (i := 13) (oi := ⟨(some 37), (Op.call { callee := (Callee.builtin Builtin.len), args := #[(Operand.tmp 36)], argTypes := #[22] }), 3, _, _, (some (11, true))⟩) (v := ?_) #[true, true, true, true, true, true, true, true, true, true, true, true, true, true, false, false, false] rfl (by kernel_rfl) (by kernel_rfl) (by kernel_rfl) (fun _ _ _ h => h) hS ?_ rfl ?_
              rotate_left
              · refine Or.inl ⟨rfl, fun W hW => ?_⟩
                dsimp only at hW
                have hx5 := (hW.cell (p := ⟨w.heap.size, 5, none⟩) hltc).trans hc5
                go_simp
                try rfl
              try simp only [Act.put, List.setIfInBounds_toArray, List.set_cons_zero, List.set_cons_succ]
              refine region_take (i := 14) (oi := ⟨(some 38), (Op.binOp BinOp.lss 3 (Operand.tmp 37) (Operand.const (Value.int IntKind.i64 64)) 3), 4, _, _, (some (11, true))⟩) (v := ?_) #[true, true, true, true, true, true, true, true, true, true, true, true, true, true, true, false, false] rfl (by kernel_rfl) (by kernel_rfl) (by kernel_rfl) (fun _ _ _ h => h) hS ?_ rfl ?_
              rotate_left
              · refine Or.inl ⟨rfl, fun W hW => ?_⟩
                dsimp only at hW
                have hx5 := (hW.cell (p := ⟨w.heap.size, 5, none⟩) hltc).trans hc5
                go_simp
                try rfl
              try simp only [Act.put, List.setIfInBounds_toArray, List.set_cons_zero, List.set_cons_succ]
              refine region_take (i := 15) (oi := ⟨(some 39), (Op.pick (Operand.tmp 35) (Operand.tmp 38) (Operand.const (Value.bool false))), 4, _, _, none⟩) (v := ?_) #[true, true, true, true, true, true, true, true, true, true, true, true, true, true, true, true, false] rfl (by kernel_rfl) (by kernel_rfl) (by kernel_rfl) (fun _ _ _ h => h) hS ?_ rfl ?_
              rotate_left
              · refine Or.inl ⟨rfl, fun W hW => ?_⟩
                dsimp only at hW
                have hx5 := (hW.cell (p := ⟨w.heap.size, 5, none⟩) hltc).trans hc5
                go_simp
                try rfl
              try simp only [Act.put, List.setIfInBounds_toArray, List.set_cons_zero, List.set_cons_succ]
              refine region_take (i := 16) (oi := ⟨(some 40), (Op.binOp BinOp.neq 4 (Operand.tmp 25) (Operand.tmp 39) 4), 4, _, _, none⟩) (v := ?_) #[true, true, true, true, true, true, true, true, true, true, true, true, true, true, true, true, true] rfl (by kernel_rfl) (by kernel_rfl) (by kernel_rfl) (fun _ _ _ h => h) hS ?_ rfl ?_
              rotate_left
              · refine Or.inl ⟨rfl, fun W hW => ?_⟩
                dsimp only at hW
                have hx5 := (hW.cell (p := ⟨w.heap.size, 5, none⟩) hltc).trans hc5
                go_simp
                try rfl
              try simp only [Act.put, List.setIfInBounds_toArray, List.set_cons_zero, List.set_cons_succ]
              refine wpAnyH_done (by kernel_rfl) ?_ _
              go_wp2_with fail
              go_meet
              case rel => exact ⟨rfl, hBc.trans (hB7.mono hBc.size)⟩
            · have h3' : decide (l.length < 64) = false := by simpa using h3
              have h3i : ¬ (l.length : Int) < 64 := by omega
              rw [h3'] at hsn
              simp only [hsn] at hrq
              refine region_start (S := (fun W => Below wc.heap.size wc W)) 17 rfl #[false, false, false, false, false, false, false, false, false, false, false, false, false, false, false, false, false] rfl (by kernel_rfl) ?_
              refine region_s ?_ ?_
              · first | exact hBcd | exact hB6 | exact hB7
              intro hS
              refine region_take (i := 0) (oi := ⟨(some 24), (Op.move (Operand.tmp 5)), 22, _, _, none⟩) (v := ?_) #[true, false, false, false, false, false, false, false, false, false, false, false, false, false, false, false, false] rfl (by kernel_rfl) (by kernel_rfl) (by kernel_rfl) (fun _ _ _ h => h) hS ?_ rfl ?_
              rotate_left
              · refine Or.inl ⟨rfl, fun W hW => ?_⟩
                dsimp only at hW
                have hx5 := (hW.cell (p := ⟨w.heap.size, 5, none⟩) hltc).trans hc5
                go_simp
                try rfl
              try simp only [Act.put, List.setIfInBounds_toArray, List.set_cons_zero, List.set_cons_succ]
              refine region_take (i := 2) (oi := ⟨(some 26), (Op.load 33 (Operand.tmp 3)), 33, _, _, none⟩) (v := ?_) #[true, false, true, false, false, false, false, false, false, false, false, false, false, false, false, false, false] rfl (by kernel_rfl) (by kernel_rfl) (by kernel_rfl) (fun _ _ _ h => h) hS ?_ rfl ?_
              rotate_left
              · refine Or.inl ⟨rfl, fun W hW => ?_⟩
                dsimp only at hW
                have hx5 := (hW.cell (p := ⟨w.heap.size, 5, none⟩) hltc).trans hc5
                (refine ldRow33 _ _ _ _ _ _ _ _ w.heap.size x.cells ?_ ((hW.block _ hltc).trans hrowc) ?_; (· rfl); (· kernel_rfl))
              try simp only [Act.put, List.setIfInBounds_toArray, List.set_cons_zero, List.set_cons_succ]
              refine region_op (i := 1) (oi := ⟨(some 25), (Op.call { callee := (Callee.value (Operand.func 14)), args := #[(Operand.tmp 24)], argTypes := #[22] }), 4, _, _, none⟩) #[true, true, true, false, false, false, false, false, false, false, false, false, false, false, false, false, false] rfl (by kernel_rfl) rfl rfl ?_
              intro K hK
              go_simp; refine (hrq _ hSq).mono ?_; rintro e w6 ⟨rfl, hb6⟩; have hB6 : Below wc.heap.size wc w6 := hBcd.trans (hb6.mono hBcd.size)
              refine hK _ _ ⟨?_, fun hS => ?_⟩
              · first | exact hBcd | exact hB6 | exact hB7
              try simp only [Act.put, List.setIfInBounds_toArray, List.set_cons_zero, List.set_cons_succ]
              refine region_op (i := 3) (oi := ⟨(some 27), (Op.call { callee := (Callee.value (Operand.func 15)), args := #[(Operand.tmp 26)], argTypes := #[33] }), 4, _, _, none⟩) #[true, true, true, true, false, false, false, false, false, false, false, false, false, false, false, false, false] rfl (by kernel_rfl) rfl rfl ?_
              intro K hK
              go_simp; refine (hins _).mono ?_; rintro e w7 ⟨rfl, hb7⟩; have hB7 : Below wc.heap.size wc w7 := hB6.trans (hb7.mono hB6.size)
              refine hK _ _ ⟨?_, fun hS => ?_⟩
              · first | exact hBcd | exact hB6 | exact hB7
              try simp only [Act.put, List.setIfInBounds_toArray, List.set_cons_zero, List.set_cons_succ]
              refine region_take (i := 4) (oi := ⟨(some 28), (Op.move (Operand.tmp 27)), 4, _, _, none⟩) (v := ?_) #[true, true, true, true, true, false, false, false, false, false, false, false, false, false, false, false, false] rfl (by kernel_rfl) (by kernel_rfl) (by kernel_rfl) (fun _ _ _ h => h) hS ?_ rfl ?_
              rotate_left
              · refine Or.inl ⟨rfl, fun W hW => ?_⟩
                dsimp only at hW
                have hx5 := (hW.cell (p := ⟨w.heap.size, 5, none⟩) hltc).trans hc5
                go_simp
                try rfl
              try simp only [Act.put, List.setIfInBounds_toArray, List.set_cons_zero, List.set_cons_succ]
              refine region_take (i := 5) (oi := ⟨(some 29), (Op.fieldAddr 33 (Operand.tmp 3) 5), 0, _, _, (some (4, true))⟩) (v := ?_) #[true, true, true, true, true, true, false, false, false, false, false, false, false, false, false, false, false] rfl (by kernel_rfl) (by kernel_rfl) (by kernel_rfl) (fun _ _ _ h => h) hS ?_ rfl ?_
              rotate_left
              · refine Or.inl ⟨rfl, fun W hW => ?_⟩
                dsimp only at hW
                have hx5 := (hW.cell (p := ⟨w.heap.size, 5, none⟩) hltc).trans hc5
                go_simp
                try rfl
              try simp only [Act.put, List.setIfInBounds_toArray, List.set_cons_zero, List.set_cons_succ]
              refine region_take (i := 6) (oi := ⟨(some 30), (Op.load 3 (Operand.tmp 29)), 3, _, _, (some (4, true))⟩) (v := ?_) #[true, true, true, true, true, true, true, false, false, false, false, false, false, false, false, false, false] rfl (by kernel_rfl) (by kernel_rfl) (by kernel_rfl) (fun _ _ _ h => h) hS ?_ rfl ?_
              rotate_left
              · refine Or.inl ⟨rfl, fun W hW => ?_⟩
                dsimp only at hW
                have hx5 := (hW.cell (p := ⟨w.heap.size, 5, none⟩) hltc).trans hc5
                go_simp
                try rfl
              try simp only [Act.put, List.setIfInBounds_toArray, List.set_cons_zero, List.set_cons_succ]
              refine region_take (i := 7) (oi := ⟨(some 31), (Op.move (Operand.tmp 5)), 22, _, _, (some (4, true))⟩) (v := ?_) #[true, true, true, true, true, true, true, true, false, false, false, false, false, false, false, false, false] rfl (by kernel_rfl) (by kernel_rfl) (by kernel_rfl) (fun _ _ _ h => h) hS ?_ rfl ?_
              rotate_left
              · refine Or.inl ⟨rfl, fun W hW => ?_⟩
                dsimp only at hW
                have hx5 := (hW.cell (p := ⟨w.heap.size, 5, none⟩) hltc).trans hc5
                go_simp
                try rfl
              try simp only [Act.put, List.setIfInBounds_toArray, List.set_cons_zero, List.set_cons_succ]
              refine region_take (i := 8) (oi := ⟨(some 32), (Op.call { callee := (Callee.builtin Builtin.len), args := #[(Operand.tmp 31)], argTypes := #[22] }), 3, _, _, (some (4, true))⟩) (v := ?_) #[true, true, true, true, true, true, true, true, true, false, false, false, false, false, false, false, false] rfl (by kernel_rfl) (by kernel_rfl) (by kernel_rfl) (fun _ _ _ h => h) hS ?_ rfl ?_
              rotate_left
              · refine Or.inl ⟨rfl, fun W hW => ?_⟩
                dsimp only at hW
                have hx5 := (hW.cell (p := ⟨w.heap.size, 5, none⟩) hltc).trans hc5
                go_simp
                try rfl
              try simp only [Act.put, List.setIfInBounds_toArray, List.set_cons_zero, List.set_cons_succ]
              refine region_take (i := 9) (oi := ⟨(some 33), (Op.binOp BinOp.leq 3 (Operand.tmp 30) (Operand.tmp 32) 3), 4, _, _, (some (4, true))⟩) (v := ?_) #[true, true, true, true, true, true, true, true, true, true, false, false, false, false, false, false, false] rfl (by kernel_rfl) (by kernel_rfl) (by kernel_rfl) (fun _ _ _ h => h) hS ?_ rfl ?_
              rotate_left
              · refine Or.inl ⟨rfl, fun W hW => ?_⟩
                dsimp only at hW
                have hx5 := (hW.cell (p := ⟨w.heap.size, 5, none⟩) hltc).trans hc5
                go_simp
                try rfl
              try simp only [Act.put, List.setIfInBounds_toArray, List.set_cons_zero, List.set_cons_succ]
              refine region_take (i := 10) (oi := ⟨(some 34), (Op.pick (Operand.tmp 28) (Operand.tmp 33) (Operand.const (Value.bool false))), 4, _, _, none⟩) (v := ?_) #[true, true, true, true, true, true, true, true, true, true, true, false, false, false, false, false, false] rfl (by kernel_rfl) (by kernel_rfl) (by kernel_rfl) (fun _ _ _ h => h) hS ?_ rfl ?_
              rotate_left
              · refine Or.inl ⟨rfl, fun W hW => ?_⟩
                dsimp only at hW
                have hx5 := (hW.cell (p := ⟨w.heap.size, 5, none⟩) hltc).trans hc5
                go_simp
                try rfl
              try simp only [Act.put, List.setIfInBounds_toArray, List.set_cons_zero, List.set_cons_succ]
              refine region_take (i := 11) (oi := ⟨(some 35), (Op.move (Operand.tmp 34)), 4, _, _, none⟩) (v := ?_) #[true, true, true, true, true, true, true, true, true, true, true, true, false, false, false, false, false] rfl (by kernel_rfl) (by kernel_rfl) (by kernel_rfl) (fun _ _ _ h => h) hS ?_ rfl ?_
              rotate_left
              · refine Or.inl ⟨rfl, fun W hW => ?_⟩
                dsimp only at hW
                have hx5 := (hW.cell (p := ⟨w.heap.size, 5, none⟩) hltc).trans hc5
                go_simp
                try rfl
              try simp only [Act.put, List.setIfInBounds_toArray, List.set_cons_zero, List.set_cons_succ]
              refine region_take (i := 12) (oi := ⟨(some 36), (Op.move (Operand.tmp 0)), 22, _, _, (some (11, true))⟩) (v := ?_) #[true, true, true, true, true, true, true, true, true, true, true, true, true, false, false, false, false] rfl (by kernel_rfl) (by kernel_rfl) (by kernel_rfl) (fun _ _ _ h => h) hS ?_ rfl ?_
              rotate_left
              · refine Or.inl ⟨rfl, fun W hW => ?_⟩
                dsimp only at hW
                have hx5 := (hW.cell (p := ⟨w.heap.size, 5, none⟩) hltc).trans hc5
                go_simp
                try rfl
              try simp only [Act.put, List.setIfInBounds_toArray, List.set_cons_zero, List.set_cons_succ]
              refine region_take (i := 13) (oi := ⟨(some 37), (Op.call { callee := (Callee.builtin Builtin.len), args := #[(Operand.tmp 36)], argTypes := #[22] }), 3, _, _, (some (11, true))⟩) (v := ?_) #[true, true, true, true, true, true, true, true, true, true, true, true, true, true, false, false, false] rfl (by kernel_rfl) (by kernel_rfl) (by kernel_rfl) (fun _ _ _ h => h) hS ?_ rfl ?_
              rotate_left
              · refine Or.inl ⟨rfl, fun W hW => ?_⟩
                dsimp only at hW
                have hx5 := (hW.cell (p := ⟨w.heap.size, 5, none⟩) hltc).trans hc5
                go_simp
                try rfl
              try simp only [Act.put, List.setIfInBounds_toArray, List.set_cons_zero, List.set_cons_succ]
              refine region_take (i := 14) (oi := ⟨(some 38), (Op.binOp BinOp.lss 3 (Operand.tmp 37) (Operand.const (Value.int IntKind.i64 64)) 3), 4, _, _, (some (11, true))⟩) (v := ?_) #[true, true, true, true, true, true, true, true, true, true, true, true, true, true, true, false, false] rfl (by kernel_rfl) (by kernel_rfl) (by kernel_rfl) (fun _ _ _ h => h) hS ?_ rfl ?_
              rotate_left
              · refine Or.inl ⟨rfl, fun W hW => ?_⟩
                dsimp only at hW
                have hx5 := (hW.cell (p := ⟨w.heap.size, 5, none⟩) hltc).trans hc5
                go_simp
                try rfl
              try simp only [Act.put, List.setIfInBounds_toArray, List.set_cons_zero, List.set_cons_succ]
              refine region_take (i := 15) (oi := ⟨(some 39), (Op.pick (Operand.tmp 35) (Operand.tmp 38) (Operand.const (Value.bool false))), 4, _, _, none⟩) (v := ?_) #[true, true, true, true, true, true, true, true, true, true, true, true, true, true, true, true, false] rfl (by kernel_rfl) (by kernel_rfl) (by kernel_rfl) (fun _ _ _ h => h) hS ?_ rfl ?_
              rotate_left
              · refine Or.inl ⟨rfl, fun W hW => ?_⟩
                dsimp only at hW
                have hx5 := (hW.cell (p := ⟨w.heap.size, 5, none⟩) hltc).trans hc5
                go_simp
                try rfl
              try simp only [Act.put, List.setIfInBounds_toArray, List.set_cons_zero, List.set_cons_succ]
              refine region_take (i := 16) (oi := ⟨(some 40), (Op.binOp BinOp.neq 4 (Operand.tmp 25) (Operand.tmp 39) 4), 4, _, _, none⟩) (v := ?_) #[true, true, true, true, true, true, true, true, true, true, true, true, true, true, true, true, true] rfl (by kernel_rfl) (by kernel_rfl) (by kernel_rfl) (fun _ _ _ h => h) hS ?_ rfl ?_
              rotate_left
              · refine Or.inl ⟨rfl, fun W hW => ?_⟩
                dsimp only at hW
                have hx5 := (hW.cell (p := ⟨w.heap.size, 5, none⟩) hltc).trans hc5
                go_simp
                try rfl
              try simp only [Act.put, List.setIfInBounds_toArray, List.set_cons_zero, List.set_cons_succ]
              refine wpAnyH_done (by kernel_rfl) ?_ _
              go_wp2_with fail
              go_meet
              case rel => exact ⟨rfl, hBc.trans (hB7.mono hBc.size)⟩
          · have h2' : decide (x.to ≤ ((l.length + 1 : Nat) : Int)) = false := by rw [decide_eq_false_iff_not]; omega
            have h2i : decide (x.to ≤ (l.length : Int) + 1) = false := by rw [decide_eq_false_iff_not]; omega
            rw [h2', Bool.false_and] at hsn
            clear h2'
            simp only [hsn] at hrq
            refine region_start (S := (fun W => Below wc.heap.size wc W)) 17 rfl #[false, false, false, false, false, false, false, false, false, false, false, false, false, false, false, false, false] rfl (by kernel_rfl) ?_
            refine region_s ?_ ?_
            · first | exact hBcd | exact hB6 | exact hB7
            intro hS
            refine region_take (i := 0) (oi := ⟨(some 24), (Op.move (Operand.tmp 5)), 22, _, _, none⟩) (v := ?_) #[true, false, false, false, false, false, false, false, false, false, false, false, false, false, false, false, false] rfl (by kernel_rfl) (by kernel_rfl) (by kernel_rfl) (fun _ _ _ h => h) hS ?_ rfl ?_
            rotate_left
            · refine Or.inl ⟨rfl, fun W hW => ?_⟩
              dsimp only at hW
              have hx5 := (hW.cell (p := ⟨w.heap.size, 5, none⟩) hltc).trans hc5
              go_simp
              try rfl
            try simp only [Act.put, List.setIfInBounds_toArray, List.set_cons_zero, List.set_cons_succ]
            refine region_take (i := 2) (oi := ⟨(some 26), (Op.load 33 (Operand.tmp 3)), 33, _, _, none⟩) (v := ?_) #[true, false, true, false, false, false, false, false, false, false, false, false, false, false, false, false, false] rfl (by kernel_rfl) (by kernel_rfl) (by kernel_rfl) (fun _ _ _ h => h) hS ?_ rfl ?_
            rotate_left
            · refine Or.inl ⟨rfl, fun W hW => ?_⟩
              dsimp only at hW
              have hx5 := (hW.cell (p := ⟨w.heap.size, 5, none⟩) hltc).trans hc5
              (refine ldRow33 _ _ _ _ _ _ _ _ w.heap.size x.cells ?_ ((hW.block _ hltc).trans hrowc) ?_; (· rfl); (· kernel_rfl))
            try simp only [Act.put, List.setIfInBounds_toArray, List.set_cons_zero, List.set_cons_succ]
            refine region_op (i := 1) (oi := ⟨(some 25), (Op.call { callee := (Callee.value (Operand.func 14)), args := #[(Operand.tmp 24)], argTypes := #[22] }), 4, _, _, none⟩) #[true, true, true, false, false, false, false, false, false, false, false, false, false, false, false, false, false] rfl (by kernel_rfl) rfl rfl ?_
            intro K hK
            go_simp; refine (hrq _ hSq).mono ?_; rintro e w6 ⟨rfl, hb6⟩; have hB6 : Below wc.heap.size wc w6 := hBcd.trans (hb6.mono hBcd.size)
            refine hK _ _ ⟨?_, fun hS => ?_⟩
            · first | exact hBcd | exact hB6 | exact hB7
            try simp only [Act.put, List.setIfInBounds_toArray, List.set_cons_zero, List.set_cons_succ]
            refine region_op (i := 3) (oi := ⟨(some 27), (Op.call { callee := (Callee.value (Operand.func 15)), args := #[(Operand.tmp 26)], argTypes := #[33] }), 4, _, _, none⟩) #[true, true, true, true, false, false, false, false, false, false, false, false, false, false, false, false, false] rfl (by kernel_rfl) rfl rfl ?_
            intro K hK
            go_simp; refine (hins _).mono ?_; rintro e w7 ⟨rfl, hb7⟩; have hB7 : Below wc.heap.size wc w7 := hB6.trans (hb7.mono hB6.size)
            refine hK _ _ ⟨?_, fun hS => ?_⟩
            · first | exact hBcd | exact hB6 | exact hB7
            try simp only [Act.put, List.setIfInBounds_toArray, List.set_cons_zero, List.set_cons_succ]
            refine region_take (i := 4) (oi := ⟨(some 28), (Op.move (Operand.tmp 27)), 4, _, _, none⟩) (v := ?_) #[true, true, true, true, true, false, false, false, false, false, false, false, false, false, false, false, false] rfl (by kernel_rfl) (by kernel_rfl) (by kernel_rfl) (fun _ _ _ h => h) hS ?_ rfl ?_
            rotate_left
            · refine Or.inl ⟨rfl, fun W hW => ?_⟩
              dsimp only at hW
              have hx5 := (hW.cell (p := ⟨w.heap.size, 5, none⟩) hltc).trans hc5
              go_simp
              try rfl
            try simp only [Act.put, List.setIfInBounds_toArray, List.set_cons_zero, List.set_cons_succ]
            refine region_take (i := 5) (oi := ⟨(some 29), (Op.fieldAddr 33 (Operand.tmp 3) 5), 0, _, _, (some (4, true))⟩) (v := ?_) #[true, true, true, true, true, true, false, false, false, false, false, false, false, false, false, false, false] rfl (by kernel_rfl) (by kernel_rfl) (by kernel_rfl) (fun _ _ _ h => h) hS ?_ rfl ?_
            rotate_left
            · refine Or.inl ⟨rfl, fun W hW => ?_⟩
              dsimp only at hW
              have hx5 := (hW.cell (p := ⟨w.heap.size, 5, none⟩) hltc).trans hc5
              go_simp
              try rfl
            try simp only [Act.put, List.setIfInBounds_toArray, List.set_cons_zero, List.set_cons_succ]
            refine region_take (i := 6) (oi := ⟨(some 30), (Op.load 3 (Operand.tmp 29)), 3, _, _, (some (4, true))⟩) (v := ?_) #[true, true, true, true, true, true, true, false, false, false, false, false, false, false, false, false, false] rfl (by kernel_rfl) (by kernel_rfl) (by kernel_rfl) (fun _ _ _ h => h) hS ?_ rfl ?_
            rotate_left
            · refine Or.inl ⟨rfl, fun W hW => ?_⟩
              dsimp only at hW
              have hx5 := (hW.cell (p := ⟨w.heap.size, 5, none⟩) hltc).trans hc5
              go_simp
              try rfl
            try simp only [Act.put, List.setIfInBounds_toArray, List.set_cons_zero, List.set_cons_succ]
            refine region_take (i := 7) (oi := ⟨(some 31), (Op.move (Operand.tmp 5)), 22, _, _, (some (4, true))⟩) (v := ?_) #[true, true, true, true, true, true, true, true, false, false, false, false, false, false, false, false, false] rfl (by kernel_rfl) (by kernel_rfl) (by kernel_rfl) (fun _ _ _ h => h) hS ?_ rfl ?_
            rotate_left
            · refine Or.inl ⟨rfl, fun W hW => ?_⟩
              dsimp only at hW
              have hx5 := (hW.cell (p := ⟨w.heap.size, 5, none⟩) hltc).trans hc5
              go_simp
              try rfl
            try simp only [Act.put, List.setIfInBounds_toArray, List.set_cons_zero, List.set_cons_succ]
            refine region_take (i := 8) (oi := ⟨(some 32), (Op.call { callee := (Callee.builtin Builtin.len), args := #[(Operand.tmp 31)], argTypes := #[22] }), 3, _, _, (some (4, true))⟩) (v := ?_) #[true, true, true, true, true, true, true, true, true, false, false, false, false, false, false, false, false] rfl (by kernel_rfl) (by kernel_rfl) (by kernel_rfl) (fun _ _ _ h => h) hS ?_ rfl ?_
            rotate_left
            · refine Or.inl ⟨rfl, fun W hW => ?_⟩
              dsimp only at hW
              have hx5 := (hW.cell (p := ⟨w.heap.size, 5, none⟩) hltc).trans hc5
              go_simp
              try rfl
            try simp only [Act.put, List.setIfInBounds_toArray, List.set_cons_zero, List.set_cons_succ]
            refine region_take (i := 9) (oi := ⟨(some 33), (Op.binOp BinOp.leq 3 (Operand.tmp 30) (Operand.tmp 32) 3), 4, _, _, (some (4, true))⟩) (v := ?_) #[true, true, true, true, true, true, true, true, true, true, false, false, false, false, false, false, false] rfl (by kernel_rfl) (by kernel_rfl) (by kernel_rfl) (fun _ _ _ h => h) hS ?_ rfl ?_
            rotate_left
            · refine Or.inl ⟨rfl, fun W hW => ?_⟩
              dsimp only at hW
              have hx5 := (hW.cell (p := ⟨w.heap.size, 5, none⟩) hltc).trans hc5
              go_simp
              try rfl
            try simp only [Act.put, List.setIfInBounds_toArray, List.set_cons_zero, List.set_cons_succ]
            refine region_take (i := 10) (oi := ⟨(some 34), (Op.pick (Operand.tmp 28) (Operand.tmp 33) (Operand.const (Value.bool false))), 4, _, _, none⟩) (v := ?_) #[true, true, true, true, true, true, true, true, true, true, true, false, false, false, false, false, false] rfl (by kernel_rfl) (by kernel_rfl) (by kernel_rfl) (fun _ _ _ h => h) hS ?_ rfl ?_
            rotate_left
            · refine Or.inl ⟨rfl, fun W hW => ?_⟩
              dsimp only at hW
              have hx5 := (hW.cell (p := ⟨w.heap.size, 5, none⟩) hltc).trans hc5
              go_simp
              try rfl
            try simp only [Act.put, List.setIfInBounds_toArray, List.set_cons_zero, List.set_cons_succ]
            refine region_take (i := 11) (oi := ⟨(some 35), (Op.move (Operand.tmp 34)), 4, _, _, none⟩) (v := ?_) #[true, true, true, true, true, true, true, true, true, true, true, true, false, false, false, false, false] rfl (by kernel_rfl) (by kernel_rfl) (by kernel_rfl) (fun _ _ _ h => h) hS ?_ rfl ?_
            rotate_left
            · refine Or.inl ⟨rfl, fun W hW => ?_⟩
              dsimp only at hW
              have hx5 := (hW.cell (p := ⟨w.heap.size, 5, none⟩) hltc).trans hc5
              go_simp
              try rfl
            try simp only [Act.put, List.setIfInBounds_toArray, List.set_cons_zero, List.set_cons_succ]
            refine region_take (i := 12) (oi := ⟨(some 36), (Op.move (Operand.tmp 0)), 22, _, _, (some (11, true))⟩) (v := undef) #[true, true, true, true, true, true, true, true, true, true, true, true, true, false, false, false, false] rfl (by kernel_rfl) (by kernel_rfl) (by kernel_rfl) (fun _ _ _ h => h) hS ?_ rfl ?_
            · exact Or.inr ⟨rfl, rfl⟩
            try simp only [Act.put, List.setIfInBounds_toArray, List.set_cons_zero, List.set_cons_succ]
            refine region_take (i := 13) (oi := ⟨(some 37), (Op.call { callee := (Callee.builtin Builtin.len), args := #[(Operand.tmp 36)], argTypes := #[22] }), 3, _, _, (some (11, true))⟩) (v := undef) #[true, true, true, true, true, true, true, true, true, true, true, true, true, true, false, false, false] rfl (by kernel_rfl) (by kernel_rfl) (by kernel_rfl) (fun _ _ _ h => h) hS ?_ rfl ?_
            · exact Or.inr ⟨rfl, rfl⟩
            try simp only [Act.put, List.setIfInBounds_toArray, List.set_cons_zero, List.set_cons_succ]
            refine region_take (i := 14) (oi := ⟨(some 38), (Op.binOp BinOp.lss 3 (Operand.tmp 37) (Operand.const (Value.int IntKind.i64 64)) 3), 4, _, _, (some (11, true))⟩) (v := undef) #[true, true, true, true, true, true, true, true, true, true, true, true, true, true, true, false, false] rfl (by kernel_rfl) (by kernel_rfl) (by kernel_rfl) (fun _ _ _ h => h) hS ?_ rfl ?_
            · exact Or.inr ⟨rfl, rfl⟩
            try simp only [Act.put, List.setIfInBounds_toArray, List.set_cons_zero, List.set_cons_succ]
            refine region_take (i := 15) (oi := ⟨(some 39), (Op.pick (Operand.tmp 35) (Operand.tmp 38) (Operand.const (Value.bool false))), 4, _, _, none⟩) (v := ?_) #[true, true, true, true, true, true, true, true, true, true, true, true, true, true, true, true, false] rfl (by kernel_rfl) (by kernel_rfl) (by kernel_rfl) (fun _ _ _ h => h) hS ?_ rfl ?_
            rotate_left
            · refine Or.inl ⟨rfl, fun W hW => ?_⟩
              dsimp only at hW
              have hx5 := (hW.cell (p := ⟨w.heap.size, 5, none⟩) hltc).trans hc5
              go_simp
              try rfl
            try simp only [Act.put, List.setIfInBounds_toArray, List.set_cons_zero, List.set_cons_succ]
            refine region_take (i := 16) (oi := ⟨(some 40), (Op.binOp BinOp.neq 4 (Operand.tmp 25) (Operand.tmp 39) 4), 4, _, _, none⟩) (v := ?_) #[true, true, true, true, true, true, true, true, true, true, true, true, true, true, true, true, true] rfl (by kernel_rfl) (by kernel_rfl) (by kernel_rfl) (fun _ _ _ h => h) hS ?_ rfl ?_
            rotate_left
            · refine Or.inl ⟨rfl, fun W hW => ?_⟩
              dsimp only at hW
              have hx5 := (hW.cell (p := ⟨w.heap.size, 5, none⟩) hltc).trans hc5
              go_simp
              try rfl
            try simp only [Act.put, List.setIfInBounds_toArray, List.set_cons_zero, List.set_cons_succ]
            refine wpAnyH_done (by kernel_rfl) ?_ _
            go_wp2_with fail
            go_meet
            case rel => exact ⟨rfl, hBc.trans (hB7.mono hBc.size)⟩
      case rest =>
        obtain ⟨rfl, hBd⟩ := hcut
        clear hown hBc hrowc hltc hc5 hrq hsn hSq hins hSc hBcd hrow
        have hBe := hB2.trans (hBd.mono hB2.size)
        by_cases h0 : l.length = 0
        · have h0i : (l.length : Int) = 0 := by omega
          go_wp2_with fail
          go_ret
          exact ⟨rfl, hBe⟩
        · have hne : l ≠ [] := by rintro rfl; exact h0 rfl
          obtain ⟨a, c', hv, hlc, hx⟩ := hS2
          injection hv with hv1 hv2 hv3
          subst hv3
          obtain ⟨b, o, hao, hbl, hcells⟩ := hx hne
          rw [hao] at hv1
          subst hv1
          clear hao hx hnil
          have h0i : ¬ (l.length : Int) = 0 := by omega
          go_wp2_with fail
          go_loopw [6, 7] (fun m t wr => ∃ k : Nat, k + 1 ≤ l.length ∧ t = .int .i64 (k : Nat) ∧ m = .int .i64 (farMost (l.take k)) ∧ Below w2.heap.size w2 wr) (fun _ t _ => l.length - (intOf t).toNat)
          case atStart => exact ⟨0, by omega, rfl, rfl, hBd⟩
          case round =>
            obtain ⟨k, hk, rfl, rfl, hBr⟩ := hrel
            obtain ⟨r, hr⟩ : ∃ r, r = farMost (l.take k) := ⟨_, rfl⟩
            rw [← hr]
            have Hr2 := Lib.hid hr
            clear hr
            by_cases hlt2 : k + 1 < l.length
            · have hltk : k < l.length := by omega
              have Hy := Lib.hid (List.getElem?_eq_getElem hltk)
              have hcy := (hcells k _ Hy.out).below hBr hbl
              have Hf := Lib.hid (far_step l k _ Hy.out)
              generalize l[k] = y at Hy hcy Hf
              have hto := hcy 5 _ rfl
              rw [← Hr2.out] at Hf
              clear hcy
              go_wp2_with fail
              go_roundw
              case rel => exact ⟨k + 1, by omega, by go_num, by rw [Hf.out], hBr⟩
              case measure => simp [intOf]; omega
            · have hk1 : k = l.length - 1 := by omega
              have hfin := right_init l Hr.out hne
              rw [← hk1, ← Hr2.out] at hfin
              have hSt : SlI wr (.slice (some ⟨b, o, none⟩) (l.length - 1) c) (l.take k) := by
                refine ⟨some ⟨b, o, none⟩, c, by rw [List.length_take, hk1, show min (l.length - 1) l.length = l.length - 1 by omega], by rw [List.length_take]; omega, fun _ => ⟨b, o, rfl, Nat.lt_of_lt_of_le hbl hBr.size, fun j y hj => ?_⟩⟩
                rw [List.getElem?_take] at hj
                split at hj
                · exact (hcells j y hj).below hBr hbl
                · cases hj
              have hfc := right_any' (l.take k) _ wr hSt (fun y hy => hf y (List.mem_of_mem_take hy)) (by rw [List.length_take]; omega)
              have hBf := hB2.trans (hBr.mono hB2.size)
              clear hSt hk1 hright
              by_cases hrl : r < (l.length : Int)
              · rw [decide_eq_true hrl] at hfin
                rw [hfin] at hfc
                clear hfin
                go_wp2_with (go_at_call 14; (with_reducible refine hfc.mono ?_); rintro e w9 ⟨rfl, hb9⟩)
                go_ret
                exact ⟨by simp [hrl], hBf.trans (hb9.mono hBf.size)⟩
              · rw [decide_eq_false hrl] at hfin
                rw [hfin] at hfc
                clear hfin
                go_wp2_with (go_at_call 14; (with_reducible refine hfc.mono ?_); rintro e w9 ⟨rfl, hb9⟩)
                go_ret
                exact ⟨by simp [hrl], hBf.trans (hb9.mono hBf.size)⟩
end Go.Proofs.YtmjojlacpgdomaaGreatDoor
