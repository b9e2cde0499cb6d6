import Derived.Test.YtmjojlacpgdomaaGreatDoorBops
import Derived.Deep.DeepCutAuto
import Derived.Deep.CutBlock
import Derived.Maps.Range
/-! (prog.scanner).scan. -/
namespace Go.Proofs.YtmjojlacpgdomaaGreatDoor
set_option linter.unusedSimpArgs false
set_option linter.unusedVariables false
open Go Go.RowKit Go.ChangeMaps
attribute [local go_sem] setRow_new setRow_old fwd_normal fwd_exit fwd_ret fwd_panic
def ScanR (w1 : World) (pb mb : Nat) (ws : List ByteArray) (s : ByteArray) (wr : World) : Prop :=
  ∃ seen, wr.heap[mb + 1]? = some (.mapIter (some mb) 10 seen 10) ∧ wr.heap[mb]? = some (.map (kindEs 10) 10) ∧ Sc pb wr ws ⟨opSeen seen s, 0, 0, false, 0, 0, .zero⟩ ∧ But pb w1 wr
theorem setBlock_ne {w : World} {r k : Nat} {o : Obj} (h : k ≠ r) : (setBlock w r o).heap[k]? = w.heap[k]? := by
  simp only [setBlock, Array.getElem?_setIfInBounds]
  rw [if_neg (by omega)]
theorem Sc.setBlock {pb : Nat} {w : World} {ws : List ByteArray} {x : Ins} (h : Sc pb w ws x) {r : Nat} (hr : pb < r) (o : Obj) : Sc pb (setBlock w r o) ws x := by
  obtain ⟨v, hrow, a, c, hv, hl, hc, hs⟩ := h
  refine ⟨v, (setBlock_ne (by omega)).trans hrow, a, c, hv, hl, hc, fun hne => ?_⟩
  obtain ⟨q, o', rfl, hrp, hx⟩ := hs hne
  exact ⟨q, o', rfl, hrp, fun j y hj => (World.cell?_of_block (setBlock_ne (show q ≠ r by omega))).trans (hx j y hj)⟩
theorem But.setBlock {b : Nat} {u w : World} (h : But b u w) {r : Nat} (hr : u.heap.size ≤ r) (o : Obj) : But b u (setBlock w r o) :=
  ⟨h.os, h.tape, h.output, by simp [ChangeMaps.setBlock]; exact h.size, fun k hk hb => (setBlock_ne (by omega)).trans (h.block k hk hb)⟩
theorem scan_7 (ws : List ByteArray) (h : opOf (hd ws) = 7) : scanIns ws = ⟨opIf (puOk (dec32 (hd ws.tail))) 7, 0, 0, false, num32 (hd ws.tail), 0, .zero⟩ := by
  unfold scanIns; rw [h]; simp
theorem scan_6 (ws : List ByteArray) (h : opOf (hd ws) = 6) : scanIns ws = ⟨opIf (puOk (dec32 (hd ws.tail))) 6, 0, 0, false, 0, num32 (hd ws.tail), .zero⟩ := by
  unfold scanIns; rw [h]; simp
theorem scan_8 (ws : List ByteArray) (h : opOf (hd ws) = 8) : scanIns ws = ⟨opIf (puOk (hex32 (hd ws.tail))) 8, 0, 0, false, adr32 (hd ws.tail), 0, .zero⟩ := by
  unfold scanIns; rw [h]; simp
theorem scan_5t (ws : List ByteArray) (h : opOf (hd ws) = 5) (ho : puOk (hex32 (hd ws.tail)) = true) : scanIns ws = ⟨opIf (puOk (dec32 (hd ws.tail.tail))) 5, 0, 0, false, adr32 (hd ws.tail), num32 (hd ws.tail.tail), .zero⟩ := by
  unfold scanIns; rw [h]; simp [ho]
theorem scan_5f (ws : List ByteArray) (h : opOf (hd ws) = 5) (ho : puOk (hex32 (hd ws.tail)) = false) : scanIns ws = ⟨0, 0, 0, false, adr32 (hd ws.tail), 0, .zero⟩ := by
  unfold scanIns; rw [h]; simp [ho]
theorem scan_9 (ws : List ByteArray) (h : opOf (hd ws) = 9) : scanIns ws = ⟨9, 0, 0, false, 0, 0, readC (mk (Lib.join (ws.tail.map (·.data.toList)) [32]))⟩ := by
  unfold scanIns; rw [h]; simp [readC]
theorem scan_rest (ws : List ByteArray) (op : Int) (h : opOf (hd ws) = op) (h1 : op ≠ 1) (h2 : op ≠ 2) (h3 : op ≠ 3) (h5 : op ≠ 5) (h6 : op ≠ 6) (h7 : op ≠ 7) (h8 : op ≠ 8) (h9 : op ≠ 9) : scanIns ws = ⟨op, 0, 0, false, 0, 0, .zero⟩ := by
  unfold scanIns; rw [h]; simp [h1, h2, h3, h5, h6, h7, h8, h9]
theorem scan_place (ws : List ByteArray) (op : Int) (h : opOf (hd ws) = op) (hp : op = 1 ∨ op = 2 ∨ op = 3) (hq : opIf (puOk (dec32 (hd ws.tail)) && puOk (hex32 (hd ws.tail.tail))) op ≠ 2) :
    scanIns ws = ⟨opIf (puOk (dec32 (hd ws.tail)) && puOk (hex32 (hd ws.tail.tail))) op, num32 (hd ws.tail), adr32 (hd ws.tail.tail), isPlus ws.tail.tail.tail, 0, 0, .zero⟩ := by
  unfold scanIns; rw [h]; simp only [if_pos hp, if_neg hq]
theorem scan_store (ws : List ByteArray) (h : opOf (hd ws) = 2) (hq : (puOk (dec32 (hd ws.tail)) && puOk (hex32 (hd ws.tail.tail))) = true) (r3 : List ByteArray) (hr : r3 = if isPlus ws.tail.tail.tail then ws.tail.tail.tail.tail else ws.tail.tail.tail) :
    scanIns ws = ⟨opIf (puOk (hex32 (hd r3))) 2, num32 (hd ws.tail), adr32 (hd ws.tail.tail), isPlus ws.tail.tail.tail, adr32 (hd r3), 0, .zero⟩ := by
  subst hr; unfold scanIns; rw [h]; simp [hq, opIf]
theorem Sc.row {pb : Nat} {w : World} {ws : List ByteArray} {x y : Ins} {v : Value} (hr : w.heap[pb]? = some (.cells (v :: x.cells).toArray 102 (0, 0))) (hs : Strs pb w v ws) : Sc pb (w.setRow pb (v :: y.cells).toArray) ws y := by
  refine ⟨v, setRow_heap _ _ _ _ _ _ hr, ?_⟩
  obtain ⟨a, c, hv, hl, hc, hs⟩ := hs
  refine ⟨a, c, hv, hl, hc, fun hne => ?_⟩
  obtain ⟨q, o, rfl, hq, hx⟩ := hs hne
  exact ⟨q, o, rfl, hq, fun j y hj => (World.cell?_of_block (setRow_heap_ne _ _ _ _ (show q ≠ pb by omega))).trans (hx j y hj)⟩
theorem But.rowAt {b : Nat} {u w : World} (h : But b u w) (cs : Array Value) : But b u (w.setRow b cs) :=
  h.trans ⟨rfl, rfl, rfl, by simp [World.setRow], fun k _ hk => setRow_heap_ne _ _ _ _ hk⟩
/-- strings.Join of words that came. -/
theorem join_strs (pb : Nat) (v : Value) (ws : List ByteArray) (w : World) (hs : Strs pb w v ws) (hp : pb ≤ w.heap.size) (hn : ws.length ≤ 1000000) (hlen : (Lib.join (ws.map (·.data.toList)) [32]).length ≤ 140737488355328) :
    Calls Tryz.prog 55 #[v, .string ⟨#[32]⟩] w fun e w' => e = .returned (.string ⟨(Lib.join (ws.map (·.data.toList)) [32]).toArray⟩) ∧ Below w.heap.size w w' := by
  obtain ⟨a, c, rfl, hl, hc, hx⟩ := hs
  by_cases h0 : ws = []
  · subst h0
    refine (Tryz.strings_Join_none _ _ _ w).mono ?_
    rintro e w' ⟨rfl, rfl⟩
    exact ⟨rfl, Below.refl _ _⟩
  · obtain ⟨r, o, rfl, hr, hx⟩ := hx h0
    exact Tryz.strings_Join r o c ws ⟨#[32]⟩ w hx (by omega) (by omega) hl hlen
set_option maxRecDepth 100000 in
set_option maxHeartbeats 4000000 in
theorem scan_any (pb : Nat) (ws : List ByteArray) (w : World) (hR : Sc pb w ws .zero) (hE : Env pb w) (hz : Small ws) (hJ : (Lib.join (ws.tail.map (·.data.toList)) [32]).length ≤ 1000000) (hN : ws.length ≤ 1000000) :
    Calls Tryz.prog 62 #[.pointer (some ⟨pb, 0, none⟩)] w fun e w' => e = .returned (.tuple #[]) ∧ (∃ ws', Sc pb w' ws' (scanIns ws)) ∧ But pb w w' := by
  obtain ⟨s, hs⟩ : ∃ s, s = hd ws := ⟨_, rfl⟩
  have Hs := Lib.hid hs
  have hnx := next_any pb ws .zero w hR
  rw [← hs] at hnx
  clear hs
  go_enter Tryz.func62, Tryz.ntmps62
  refine wp_scope_fwd ?_
  go_wp2_with (first | (go_at_call 135; (with_reducible refine hnx.mono ?_); rintro e w1 ⟨rfl, hR1, hb1⟩) | (go_at_call 45; (with_reducible refine (mapKinds_any w1).mono ?_); rintro e wk ⟨rfl, rfl⟩; have hrg := run_range_map (P := Tryz.prog) (w1.alloc (.map (kindEs 10) 10)) 85 23 83 w1.heap.size (kindEs 10) 10 Tryz.underlying85 (heap_alloc_new _ _)))
  have hpb : pb < w1.heap.size := hR1.lt
  have hE1 := hE.but hb1
  have hwl : ((w1.alloc (.map (kindEs 10) 10)).alloc (.mapIter (some w1.heap.size) 10 #[] 10)).heap[w1.heap.size + 1]? = some (.mapIter (some w1.heap.size) 10 #[] 10) := heap_alloc2_new _ _ _
  have hwm : ((w1.alloc (.map (kindEs 10) 10)).alloc (.mapIter (some w1.heap.size) 10 #[] 10)).heap[w1.heap.size]? = some (.map (kindEs 10) 10) := hp1 _ _ _
  have hwR : Sc pb ((w1.alloc (.map (kindEs 10) 10)).alloc (.mapIter (some w1.heap.size) 10 #[] 10)) ws.tail .zero := (hR1.below ((Below.refl _ _).alloc (Nat.le_refl _) _)).below ((Below.refl _ _).alloc (Nat.le_refl _) _)
  have hwb : But pb w1 ((w1.alloc (.map (kindEs 10) 10)).alloc (.mapIter (some w1.heap.size) 10 #[] 10)) := (But.of ((Below.refl _ _).alloc (Nat.le_refl _) _)).trans (But.of ((Below.refl _ _).alloc (Nat.le_refl _) _))
  obtain ⟨mb, hmb⟩ : ∃ mb, mb = w1.heap.size := ⟨_, rfl⟩
  rw [← hmb] at hwl hwm hwR hwb hpb ⊢
  have hmb1 : mb ≤ w1.heap.size := by omega
  have hmb2 : w1.heap.size ≤ mb := by omega
  clear hmb hrg hR hnx
  generalize (w1.alloc (.map (kindEs 10) 10)).alloc (.mapIter (some mb) 10 #[] 10) = w2 at hwl hwm hwR hwb ⊢
  go_loopw [] (fun wr => ScanR w1 pb mb ws.tail s wr) (fun wr => wr.rangeLeft mb (mb + 1))
  case atStart => exact ⟨#[], hwl, hwm, by rw [opSeen_empty]; exact hwR, hwb⟩
  case round =>
    obtain ⟨seen, hr, hb, hRr, hbut⟩ := hrel
    go_wp2_with (refine wpl_next rfl (.tmp 12) rfl (mb + 1) mb seen rfl hr hb ?_ ?_)
    rotate_left
    · intro n f wx hn hsh hal hen
      have hRx : Sc pb wx ws.tail ⟨opSeen seen s, 0, 0, false, 0, 0, .zero⟩ := by rcases hal with rfl | rfl <;> exact hRr
      have hbx : wx.heap[mb]? = some (.map (kindEs 10) 10) := by rcases hal with rfl | rfl <;> exact hb
      have hrx : wx.heap[mb + 1]? = some (.mapIter (some mb) 10 seen 10) := by rcases hal with rfl | rfl <;> exact hr
      have hbutx : But pb w1 wx := by
        rcases hal with rfl | rfl
        · exact hbut
        · exact hbut.drew
      have hR3 := hRx.setBlock (r := mb + 1) (by omega) (.mapIter (some mb) 10 (seen.push n) 10)
      have hb3 := (setBlock_ne (w := wx) (r := mb + 1) (k := mb) (o := .mapIter (some mb) 10 (seen.push n) 10) (by omega)).trans hbx
      have hr3 := (MapKept.heap_set (o' := .mapIter (some mb) 10 (seen.push n) 10) hrx).1
      have hbut3 := hbutx.setBlock (r := mb + 1) (by omega) (.mapIter (some mb) 10 (seen.push n) 10)
      have hlft : wr.rangeLeft mb (mb + 1) = (leftOf (kindEs 10) seen).size := by simp [World.rangeLeft, hb, hr]
      change (setBlock wx (mb + 1) (.mapIter (some mb) 10 (seen.push n) 10)).heap[mb + 1]? = _ at hr3
      generalize setBlock wx (mb + 1) (.mapIter (some mb) 10 (seen.push n) 10) = w3 at hR3 hb3 hr3 hbut3 hen ⊢
      have Hl := Lib.hid hlft
      have Hsh := Lib.hid hsh
      clear hal hRx hbx hrx hbutx hRr hb hr hbut hlft hsh
      have hc3 := hR3.cell 0
      have hf3 := hR3.hot
      simp only [Ins.cells, List.getElem?_cons_zero] at hc3
      have Hr3 := Lib.hid hr3
      have Hb3 := Lib.hid hb3
      clear hr3 hb3
      by_cases hw : mk (wordN n) = s
      · have ht : (wordN n == s.toList) = true := by rw [← hw, Lib.toList_data, mk_data]; simp
        have Hw := Lib.hid hw
        clear hw
        go_wp2_with ((guard_target =~ wpList _ _ _ [_] _ _); (refine wpl_store 83 _ _ rfl ?_ w3.heap.size 0 83 [.string ⟨#[]⟩, .nilFunc] [.string ⟨(wordN n).toArray⟩, .func (.func f) #[] #[]] (heap_alloc_new _ _) rfl rfl ?_ ?_ ?_ _ rfl ?_); (· rfl); (· kernel_rfl); (· exact Nat.le_of_ble_eq_true rfl); (· rfl); simp only [List.take, List.drop, List.nil_append, List.append_nil, List.cons_append, setRow_new]; have hR4 := hR3.below ((Below.refl _ _).alloc (Nat.le_refl _) (.cells #[.string ⟨(wordN n).toArray⟩, .func (.func f) #[] #[]] 83)); have hc4 := hR4.cell 0; have hf4 := hR4.hot; simp only [Ins.cells, List.getElem?_cons_zero] at hc4; clear hc3 hf3)
        go_roundw
        case rel => exact ⟨seen.push n, (Below.heap_setCell _ _ _ _ (show mb + 1 ≠ pb by omega)).trans ((Below.heap_alloc _ _ _ (heap_lt Hr3.out)).trans Hr3.out), (Below.heap_setCell _ _ _ _ (show mb ≠ pb by omega)).trans ((Below.heap_alloc _ _ _ (heap_lt Hb3.out)).trans Hb3.out), hR4.set 0 _ (by rw [opSeen_hit seen s n hn Hw.out]; rfl), (hbut3.trans (But.of ((Below.refl _ _).alloc (Nat.le_refl _) _))).setCell rfl _⟩
        case measure => rw [Hl.out]; have h1 := (Below.heap_setCell (w3.alloc (.cells #[.string ⟨(wordN n).toArray⟩, .func (.func f) #[] #[]] 83)) ⟨pb, 1, none⟩ (.int .i64 ((n : Int) + 1)) _ (show mb + 1 ≠ pb by omega)).trans ((Below.heap_alloc _ _ _ (heap_lt Hr3.out)).trans Hr3.out); have h2 := (Below.heap_setCell (w3.alloc (.cells #[.string ⟨(wordN n).toArray⟩, .func (.func f) #[] #[]] 83)) ⟨pb, 1, none⟩ (.int .i64 ((n : Int) + 1)) _ (show mb ≠ pb by omega)).trans ((Below.heap_alloc _ _ _ (heap_lt Hb3.out)).trans Hb3.out); simp only [World.rangeLeft, h1, h2]; exact Hsh.out
      · have ht : (wordN n == s.toList) = false := str_ne2 hw
        have Hw := Lib.hid hw
        clear hw
        go_wp2_with ((guard_target =~ wpList _ _ _ [_] _ _); (refine wpl_store 83 _ _ rfl ?_ w3.heap.size 0 83 [.string ⟨#[]⟩, .nilFunc] [.string ⟨(wordN n).toArray⟩, .func (.func f) #[] #[]] (heap_alloc_new _ _) rfl rfl ?_ ?_ ?_ _ rfl ?_); (· rfl); (· kernel_rfl); (· exact Nat.le_of_ble_eq_true rfl); (· rfl); simp only [List.take, List.drop, List.nil_append, List.append_nil, List.cons_append, setRow_new]; have hR4 := hR3.below ((Below.refl _ _).alloc (Nat.le_refl _) (.cells #[.string ⟨(wordN n).toArray⟩, .func (.func f) #[] #[]] 83)); have hc4 := hR4.cell 0; have hf4 := hR4.hot; simp only [Ins.cells, List.getElem?_cons_zero] at hc4; clear hc3 hf3)
        go_roundw
        case rel => exact ⟨seen.push n, (Below.heap_alloc _ _ _ (heap_lt Hr3.out)).trans Hr3.out, (Below.heap_alloc _ _ _ (heap_lt Hb3.out)).trans Hb3.out, by rw [opSeen_miss seen s n hn Hw.out]; exact hR4, hbut3.trans (But.of ((Below.refl _ _).alloc (Nat.le_refl _) _))⟩
        case measure => rw [Hl.out]; have h1 := (Below.heap_alloc w3 (.cells #[.string ⟨(wordN n).toArray⟩, .func (.func f) #[] #[]] 83) _ (heap_lt Hr3.out)).trans Hr3.out; have h2 := (Below.heap_alloc w3 (.cells #[.string ⟨(wordN n).toArray⟩, .func (.func f) #[] #[]] 83) _ (heap_lt Hb3.out)).trans Hb3.out; simp only [World.rangeLeft, h1, h2]; exact Hsh.out
    · intro hdone
      have hop := opSeen_all seen s (by first | exact hdone | simp [hdone])
      rw [hop] at hRr
      obtain ⟨op, hopv⟩ : ∃ op, op = opOf s := ⟨_, rfl⟩
      rw [← hopv] at hRr
      rw [Hs.out] at hopv
      have Hop := Lib.hid hopv.symm
      have hE2 := hE1.but hbut
      have hB2 := hb1.trans hbut
      clear hdone hop hopv hr hb hbut hwl hwm hwR hwb Hs hE1 hR1 hb1 hE hmb1 hmb2
      have hc0 := hRr.cell 0
      have hf0 := hRr.hot
      simp only [Ins.cells, List.getElem?_cons_zero] at hc0
      by_cases h7 : op = 7
      · subst h7
        have hsc := scan_7 ws Hop.out
        have Hsc := Lib.hid hsc
        clear hsc
        go_wp2_with (go_at_call 136; (with_reducible refine (scan10_any pb ws.tail _ wr (hRr) (hE2) (hz.tail.hd')).mono ?_); rintro e w4 ⟨rfl, hR4, hb4⟩; have hE4 := (hE2).but hb4; have hx4 := hR4.hot; have hk4_4 := hR4.cell 4; simp only [Ins.kill, Ins.cells, List.getElem?_cons_zero, List.getElem?_cons_succ] at hk4_4)
        try simp only [fwd_ret, Exit.noGoto_ret, Exit.noGoto_normal, fwd_normal, Exit.then, Exit.inBlock]
        first | refine bodyPost_ret (results_none rfl _ _ _) rfl ?_ | refine bodyPost_end (results_none rfl _ _ _) rfl ?_
        exact ⟨rfl, ⟨_, by rw [Hsc.out]; exact hR4.set 4 _ rfl⟩, (hB2.trans hb4).setCell rfl _⟩
      by_cases h6 : op = 6
      · subst h6
        have hsc := scan_6 ws Hop.out
        have Hsc := Lib.hid hsc
        clear hsc
        have hle4 := dec32_le (Go.Proofs.YtmjojlacpgdomaaGreatDoor.hd ws.tail)
        go_wp2_with fail
        go_step3
        refine ⟨_, rfl, ?_⟩
        go_wp2_with (go_at_call 136; (with_reducible refine (scan10_any pb ws.tail _ wr (hRr) (hE2) (hz.tail.hd')).mono ?_); rintro e w4 ⟨rfl, hR4, hb4⟩; have hE4 := (hE2).but hb4; have hx4 := hR4.hot; have hk4_5 := hR4.cell 5; simp only [Ins.kill, Ins.cells, List.getElem?_cons_zero, List.getElem?_cons_succ] at hk4_5)
        try simp only [fwd_ret, Exit.noGoto_ret, Exit.noGoto_normal, fwd_normal, Exit.then, Exit.inBlock]
        first | refine bodyPost_ret (results_none rfl _ _ _) rfl ?_ | refine bodyPost_end (results_none rfl _ _ _) rfl ?_
        exact ⟨rfl, ⟨_, by rw [Hsc.out]; exact hR4.set 5 _ rfl⟩, (hB2.trans hb4).setCell rfl _⟩
      by_cases h8 : op = 8
      · subst h8
        have hsc := scan_8 ws Hop.out
        have Hsc := Lib.hid hsc
        clear hsc
        have hne : (opIf (puOk (hex32 (Go.Proofs.YtmjojlacpgdomaaGreatDoor.hd ws.tail))) 8 == 5) = false := by cases puOk (hex32 (Go.Proofs.YtmjojlacpgdomaaGreatDoor.hd ws.tail)) <;> rfl
        go_wp2_with fail
        go_step3
        refine ⟨_, rfl, ?_⟩
        go_wp2_with (go_at_call 136; (with_reducible refine (scan16_any pb ws.tail _ wr (hRr) (hE2) (hz.tail.hd')).mono ?_); rintro e w4 ⟨rfl, hR4, hb4⟩; have hE4 := (hE2).but hb4; have hx4 := hR4.hot; have hk4_0 := hR4.cell 0; have hk4_4 := hR4.cell 4; simp only [Ins.kill, Ins.cells, List.getElem?_cons_zero, List.getElem?_cons_succ] at hk4_0 hk4_4)
        try simp only [fwd_ret, Exit.noGoto_ret, Exit.noGoto_normal, fwd_normal, Exit.then, Exit.inBlock]
        first | refine bodyPost_ret (results_none rfl _ _ _) rfl ?_ | refine bodyPost_end (results_none rfl _ _ _) rfl ?_
        exact ⟨rfl, ⟨_, by rw [Hsc.out]; exact hR4.set 4 _ rfl⟩, (hB2.trans hb4).setCell rfl _⟩
      by_cases h5 : op = 5
      · subst h5
        cases ho : puOk (hex32 (Go.Proofs.YtmjojlacpgdomaaGreatDoor.hd ws.tail)) with
        | false =>
          have hsc := scan_5f ws Hop.out ho
          have Hsc := Lib.hid hsc
          clear hsc
          have Ho := Lib.hid ho
          clear ho
          go_wp2_with fail
          go_step3
          refine ⟨_, rfl, ?_⟩
          go_wp2_with (go_at_call 136; (with_reducible refine (scan16_any pb ws.tail _ wr (hRr) (hE2) (hz.tail.hd')).mono ?_); rintro e w4 ⟨rfl, hR4, hb4⟩; have hE4 := (hE2).but hb4; rw [Ho.out] at hR4; have hx4 := hR4.hot; have hk4_0 := hR4.cell 0; have hk4_4 := hR4.cell 4; simp only [Ins.kill, Ins.cells, List.getElem?_cons_zero, List.getElem?_cons_succ] at hk4_0 hk4_4; simp only [opIf, Bool.false_eq_true, if_false] at hk4_0)
          try simp only [fwd_ret, Exit.noGoto_ret, Exit.noGoto_normal, fwd_normal, Exit.then, Exit.inBlock]
          first | refine bodyPost_ret (results_none rfl _ _ _) rfl ?_ | refine bodyPost_end (results_none rfl _ _ _) rfl ?_
          exact ⟨rfl, ⟨_, by rw [Hsc.out]; exact hR4.set 4 _ rfl⟩, (hB2.trans hb4).setCell rfl _⟩
        | true =>
          have hsc := scan_5t ws Hop.out ho
          have Hsc := Lib.hid hsc
          clear hsc
          have hle4 := dec32_le (Go.Proofs.YtmjojlacpgdomaaGreatDoor.hd ws.tail.tail)
          have Ho := Lib.hid ho
          clear ho
          go_wp2_with fail
          go_step3
          refine ⟨_, rfl, ?_⟩
          go_wp2_with (go_at_call 136; (with_reducible refine (scan16_any pb ws.tail _ wr (hRr) (hE2) (hz.tail.hd')).mono ?_); rintro e w4 ⟨rfl, hR4, hb4⟩; have hE4 := (hE2).but hb4; rw [Ho.out] at hR4; have hx4 := hR4.hot; have hk4_0 := hR4.cell 0; have hk4_4 := hR4.cell 4; simp only [Ins.kill, Ins.cells, List.getElem?_cons_zero, List.getElem?_cons_succ] at hk4_0 hk4_4; simp only [opIf, if_true] at hk4_0; have hR5 := hR4.set (y := ⟨5, 0, 0, false, adr32 (Go.Proofs.YtmjojlacpgdomaaGreatDoor.hd ws.tail), 0, .zero⟩) 4 (.int .u32 (adr32 (Go.Proofs.YtmjojlacpgdomaaGreatDoor.hd ws.tail) : Nat)) rfl; have hb5 := hb4.setCell (p := ⟨pb, 5, none⟩) rfl (.int .u32 (adr32 (Go.Proofs.YtmjojlacpgdomaaGreatDoor.hd ws.tail) : Nat)); have hE5 := hE2.but hb5; have hk5 := hR5.cell 0; simp only [Ins.cells, List.getElem?_cons_zero] at hk5)
          try go_step3
          go_wp2_with (go_at_call 136; (with_reducible refine (scan10_any pb ws.tail.tail _ _ (hR5) (hE5) (hz.tail.tail.hd')).mono ?_); rintro e w6 ⟨rfl, hR6, hb6⟩; have hE6 := (hE5).but hb6; have hx6 := hR6.hot; have hk6_5 := hR6.cell 5; simp only [Ins.kill, Ins.cells, List.getElem?_cons_zero, List.getElem?_cons_succ] at hk6_5)
          try simp only [fwd_ret, Exit.noGoto_ret, Exit.noGoto_normal, fwd_normal, Exit.then, Exit.inBlock]
          first | refine bodyPost_ret (results_none rfl _ _ _) rfl ?_ | refine bodyPost_end (results_none rfl _ _ _) rfl ?_
          exact ⟨rfl, ⟨_, by rw [Hsc.out]; exact hR6.set 5 _ rfl⟩, ((hB2.trans hb5).trans hb6).setCell rfl _⟩
      by_cases hp : op = 1 ∨ op = 2 ∨ op = 3
      · have hle4 := dec32_le (Go.Proofs.YtmjojlacpgdomaaGreatDoor.hd ws.tail)
        have hz2 := hz.tail.tail.tail
        have hO : opIf (puOk (hex32 (Go.Proofs.YtmjojlacpgdomaaGreatDoor.hd ws.tail.tail))) (opIf (puOk (dec32 (Go.Proofs.YtmjojlacpgdomaaGreatDoor.hd ws.tail))) op) = opIf (puOk (dec32 (Go.Proofs.YtmjojlacpgdomaaGreatDoor.hd ws.tail)) && puOk (hex32 (Go.Proofs.YtmjojlacpgdomaaGreatDoor.hd ws.tail.tail))) op := by cases puOk (dec32 (Go.Proofs.YtmjojlacpgdomaaGreatDoor.hd ws.tail)) <;> cases puOk (hex32 (Go.Proofs.YtmjojlacpgdomaaGreatDoor.hd ws.tail.tail)) <;> rfl
        have HO := Lib.hid hO
        clear hO
        obtain ⟨t1, t2, t3⟩ : True ∧ True ∧ True := ⟨trivial, trivial, trivial⟩
        rcases hp with rfl | rfl | rfl
        · go_wp2_with fail
          go_step3
          refine ⟨_, rfl, ?_⟩
          go_upto_region 20 with (first | (go_at_call 136; (with_reducible refine (scan10_any pb ws.tail _ wr (hRr) (hE2) (hz.tail.hd')).mono ?_); rintro e w4 ⟨rfl, hR4, hb4⟩; have hE4 := (hE2).but hb4) | (go_at_call 136; (with_reducible refine (scan16_any pb ws.tail.tail _ w4 (hR4) (hE4) (hz.tail.tail.hd')).mono ?_); rintro e w5 ⟨rfl, hR5, hb5⟩; have hE5 := (hE4).but hb5; have hx5 := hR5.hot; have hk5_1 := hR5.cell 1; have hk5_2 := hR5.cell 2; simp only [Ins.kill, Ins.cells, List.getElem?_cons_zero, List.getElem?_cons_succ] at hk5_1 hk5_2; have hR6 := (hR5.set (y := ⟨opIf (puOk (hex32 (Go.Proofs.YtmjojlacpgdomaaGreatDoor.hd ws.tail.tail))) (opIf (puOk (dec32 (Go.Proofs.YtmjojlacpgdomaaGreatDoor.hd ws.tail))) 1), num32 (Go.Proofs.YtmjojlacpgdomaaGreatDoor.hd ws.tail), 0, false, 0, 0, .zero⟩) 1 (.int .i64 (num32 (Go.Proofs.YtmjojlacpgdomaaGreatDoor.hd ws.tail) : Nat)) rfl).set (y := ⟨opIf (puOk (hex32 (Go.Proofs.YtmjojlacpgdomaaGreatDoor.hd ws.tail.tail))) (opIf (puOk (dec32 (Go.Proofs.YtmjojlacpgdomaaGreatDoor.hd ws.tail))) 1), num32 (Go.Proofs.YtmjojlacpgdomaaGreatDoor.hd ws.tail), adr32 (Go.Proofs.YtmjojlacpgdomaaGreatDoor.hd ws.tail.tail), false, 0, 0, .zero⟩) 2 (.int .u32 (adr32 (Go.Proofs.YtmjojlacpgdomaaGreatDoor.hd ws.tail.tail) : Nat)) rfl; have hb6 := ((hb4.trans hb5).setCell (p := ⟨pb, 2, none⟩) rfl (.int .i64 (num32 (Go.Proofs.YtmjojlacpgdomaaGreatDoor.hd ws.tail) : Nat))).setCell (p := ⟨pb, 3, none⟩) rfl (.int .u32 (adr32 (Go.Proofs.YtmjojlacpgdomaaGreatDoor.hd ws.tail.tail) : Nat))))
          clear hx5 hk5_1 hk5_2 hR4 hb4 hE4 hR5 hb5 hE5 hRr hf0 hc0
          rw [HO.out] at hR6
          have hE7 := hE2.but hb6
          have hB7 := hB2.trans hb6
          clear hb6 hE2 hB2
          generalize (w5.setCell ⟨pb, 2, none⟩ (.int .i64 (num32 (Go.Proofs.YtmjojlacpgdomaaGreatDoor.hd ws.tail) : Nat))).setCell ⟨pb, 3, none⟩ (.int .u32 (adr32 (Go.Proofs.YtmjojlacpgdomaaGreatDoor.hd ws.tail.tail) : Nat)) = w7 at hR6 hE7 hB7 ⊢
          generalize hq : opIf (puOk (dec32 (Go.Proofs.YtmjojlacpgdomaaGreatDoor.hd ws.tail)) && puOk (hex32 (Go.Proofs.YtmjojlacpgdomaaGreatDoor.hd ws.tail.tail))) 1 = q at hR6
          have hr2 := hR6
          obtain ⟨r2, hr2e⟩ : ∃ r2, r2 = ws.tail.tail.tail := ⟨_, rfl⟩
          rw [← hr2e] at hR6
          have Hr2 := Lib.hid hr2e
          have Hq := Lib.hid hq
          clear hr2 hr2e hq
          have hq2 : (q == 2) = false := by rw [← Hq.out]; cases (puOk (dec32 (Go.Proofs.YtmjojlacpgdomaaGreatDoor.hd ws.tail)) && puOk (hex32 (Go.Proofs.YtmjojlacpgdomaaGreatDoor.hd ws.tail.tail))) <;> rfl
          have Hsc := Lib.hid (scan_place ws 1 Hop.out (.inl rfl) (by rw [Hq.out]; intro e; rw [e] at hq2; cases hq2))
          rcases r2 with _ | ⟨y, r⟩
          · have hsl : ∃ a c, w7.cell? ⟨pb, 0, none⟩ = some (.slice a 0 c) := by obtain ⟨v, hrow, a, c, rfl, _⟩ := hR6; exact ⟨a, c, row_cell hrow 0⟩
            obtain ⟨a, c, hsl⟩ := hsl
            have hpl : isPlus ws.tail.tail.tail = false := by rw [← Hr2.out]; rfl
            have hR8 := hR6.set (y := ⟨q, num32 (Go.Proofs.YtmjojlacpgdomaaGreatDoor.hd ws.tail), adr32 (Go.Proofs.YtmjojlacpgdomaaGreatDoor.hd ws.tail.tail), false, 0, 0, .zero⟩) 3 (.bool false) rfl
            have hB8 := hB7.setCell (p := ⟨pb, 4, none⟩) rfl (.bool false)
            have hE8 := hE7.but ((But.refl pb w7).setCell (p := ⟨pb, 4, none⟩) rfl (.bool false))
            have hk6 := hR6.cell 3
            have hf6 := hR6.hot
            have hk8 := hR8.cell 0
            have hk8' := hR8.cell 3
            simp only [Ins.cells, List.getElem?_cons_zero, List.getElem?_cons_succ] at hk6 hk8 hk8'
            have Hpl := Lib.hid hpl
            clear hpl
            go_wp2_with fail
            try simp only [fwd_ret, Exit.noGoto_ret, Exit.noGoto_normal, fwd_normal, Exit.then, Exit.inBlock]
            first | refine bodyPost_ret (results_none rfl _ _ _) rfl ?_ | refine bodyPost_end (results_none rfl _ _ _) rfl ?_
            exact ⟨rfl, ⟨_, by rw [Hsc.out, Hq.out, Hpl.out]; exact hR8⟩, hB8⟩
          have hsl : ∃ r0 o0 n c, w7.cell? ⟨pb, 0, none⟩ = some (.slice (some ⟨r0, o0, none⟩) (n + 1) c) ∧ w7.cell? ⟨r0, o0, none⟩ = some (.string y) := by
            obtain ⟨v, hrow, a, c, rfl, hl, hc, hx⟩ := hR6
            obtain ⟨r0, o0, rfl, _, hx⟩ := hx (by simp)
            exact ⟨r0, o0, r.length, c, row_cell hrow 0, by simpa using hx 0 y rfl⟩
          obtain ⟨r0, o0, n, c, hsl, hsx⟩ := hsl
          by_cases hy : y = ⟨#[43]⟩
          · subst hy
            have hpl : isPlus ws.tail.tail.tail = true := by rw [← Hr2.out]; simp [isPlus]
            have hR8 := hR6.set (y := ⟨q, num32 (Go.Proofs.YtmjojlacpgdomaaGreatDoor.hd ws.tail), adr32 (Go.Proofs.YtmjojlacpgdomaaGreatDoor.hd ws.tail.tail), true, 0, 0, .zero⟩) 3 (.bool true) rfl
            have hB8 := hB7.setCell (p := ⟨pb, 4, none⟩) rfl (.bool true)
            have hE8 := hE7.but ((But.refl pb w7).setCell (p := ⟨pb, 4, none⟩) rfl (.bool true))
            have hk6 := hR6.cell 3
            have hf6 := hR6.hot
            have hk8 := hR8.cell 0
            have hk8' := hR8.cell 3
            simp only [Ins.cells, List.getElem?_cons_zero, List.getElem?_cons_succ] at hk6 hk8 hk8'
            have Hpl := Lib.hid hpl
            clear hpl
            go_wp2_with (first | (go_at_call 135; (with_reducible refine (next_any pb _ _ _ hR8).mono ?_); rintro e w9 ⟨rfl, hR9, hb9⟩; have hk9 := hR9.cell 0; simp only [Ins.cells, List.getElem?_cons_zero] at hk9))
            try simp only [fwd_ret, Exit.noGoto_ret, Exit.noGoto_normal, fwd_normal, Exit.then, Exit.inBlock]
            first | refine bodyPost_ret (results_none rfl _ _ _) rfl ?_ | refine bodyPost_end (results_none rfl _ _ _) rfl ?_
            exact ⟨rfl, ⟨_, by rw [Hsc.out, Hq.out, Hpl.out]; exact hR9⟩, (hB8.trans hb9)⟩
          · have hpl : isPlus ws.tail.tail.tail = false := by rw [← Hr2.out]; exact decide_eq_false hy
            have hyn : (y.toList == [43]) = false := str_ne hy
            clear hy
            have hR8 := hR6.set (y := ⟨q, num32 (Go.Proofs.YtmjojlacpgdomaaGreatDoor.hd ws.tail), adr32 (Go.Proofs.YtmjojlacpgdomaaGreatDoor.hd ws.tail.tail), false, 0, 0, .zero⟩) 3 (.bool false) rfl
            have hB8 := hB7.setCell (p := ⟨pb, 4, none⟩) rfl (.bool false)
            have hE8 := hE7.but ((But.refl pb w7).setCell (p := ⟨pb, 4, none⟩) rfl (.bool false))
            have hk6 := hR6.cell 3
            have hf6 := hR6.hot
            have hk8 := hR8.cell 0
            have hk8' := hR8.cell 3
            simp only [Ins.cells, List.getElem?_cons_zero, List.getElem?_cons_succ] at hk6 hk8 hk8'
            have Hpl := Lib.hid hpl
            clear hpl
            go_wp2_with fail
            try simp only [fwd_ret, Exit.noGoto_ret, Exit.noGoto_normal, fwd_normal, Exit.then, Exit.inBlock]
            first | refine bodyPost_ret (results_none rfl _ _ _) rfl ?_ | refine bodyPost_end (results_none rfl _ _ _) rfl ?_
            exact ⟨rfl, ⟨_, by rw [Hsc.out, Hq.out, Hpl.out]; exact hR8⟩, hB8⟩
        · go_wp2_with fail
          go_step3
          refine ⟨_, rfl, ?_⟩
          go_upto_region 20 with (first | (go_at_call 136; (with_reducible refine (scan10_any pb ws.tail _ wr (hRr) (hE2) (hz.tail.hd')).mono ?_); rintro e w4 ⟨rfl, hR4, hb4⟩; have hE4 := (hE2).but hb4) | (go_at_call 136; (with_reducible refine (scan16_any pb ws.tail.tail _ w4 (hR4) (hE4) (hz.tail.tail.hd')).mono ?_); rintro e w5 ⟨rfl, hR5, hb5⟩; have hE5 := (hE4).but hb5; have hx5 := hR5.hot; have hk5_1 := hR5.cell 1; have hk5_2 := hR5.cell 2; simp only [Ins.kill, Ins.cells, List.getElem?_cons_zero, List.getElem?_cons_succ] at hk5_1 hk5_2; have hR6 := (hR5.set (y := ⟨opIf (puOk (hex32 (Go.Proofs.YtmjojlacpgdomaaGreatDoor.hd ws.tail.tail))) (opIf (puOk (dec32 (Go.Proofs.YtmjojlacpgdomaaGreatDoor.hd ws.tail))) 2), num32 (Go.Proofs.YtmjojlacpgdomaaGreatDoor.hd ws.tail), 0, false, 0, 0, .zero⟩) 1 (.int .i64 (num32 (Go.Proofs.YtmjojlacpgdomaaGreatDoor.hd ws.tail) : Nat)) rfl).set (y := ⟨opIf (puOk (hex32 (Go.Proofs.YtmjojlacpgdomaaGreatDoor.hd ws.tail.tail))) (opIf (puOk (dec32 (Go.Proofs.YtmjojlacpgdomaaGreatDoor.hd ws.tail))) 2), num32 (Go.Proofs.YtmjojlacpgdomaaGreatDoor.hd ws.tail), adr32 (Go.Proofs.YtmjojlacpgdomaaGreatDoor.hd ws.tail.tail), false, 0, 0, .zero⟩) 2 (.int .u32 (adr32 (Go.Proofs.YtmjojlacpgdomaaGreatDoor.hd ws.tail.tail) : Nat)) rfl; have hb6 := ((hb4.trans hb5).setCell (p := ⟨pb, 2, none⟩) rfl (.int .i64 (num32 (Go.Proofs.YtmjojlacpgdomaaGreatDoor.hd ws.tail) : Nat))).setCell (p := ⟨pb, 3, none⟩) rfl (.int .u32 (adr32 (Go.Proofs.YtmjojlacpgdomaaGreatDoor.hd ws.tail.tail) : Nat))))
          clear hx5 hk5_1 hk5_2 hR4 hb4 hE4 hR5 hb5 hE5 hRr hf0 hc0
          rw [HO.out] at hR6
          have hE7 := hE2.but hb6
          have hB7 := hB2.trans hb6
          clear hb6 hE2 hB2
          generalize (w5.setCell ⟨pb, 2, none⟩ (.int .i64 (num32 (Go.Proofs.YtmjojlacpgdomaaGreatDoor.hd ws.tail) : Nat))).setCell ⟨pb, 3, none⟩ (.int .u32 (adr32 (Go.Proofs.YtmjojlacpgdomaaGreatDoor.hd ws.tail.tail) : Nat)) = w7 at hR6 hE7 hB7 ⊢
          generalize hq : opIf (puOk (dec32 (Go.Proofs.YtmjojlacpgdomaaGreatDoor.hd ws.tail)) && puOk (hex32 (Go.Proofs.YtmjojlacpgdomaaGreatDoor.hd ws.tail.tail))) 2 = q at hR6
          have hr2 := hR6
          obtain ⟨r2, hr2e⟩ : ∃ r2, r2 = ws.tail.tail.tail := ⟨_, rfl⟩
          rw [← hr2e] at hR6
          have Hr2 := Lib.hid hr2e
          have Hq := Lib.hid hq
          clear hr2 hr2e hq
          cases h12 : (puOk (dec32 (Go.Proofs.YtmjojlacpgdomaaGreatDoor.hd ws.tail)) && puOk (hex32 (Go.Proofs.YtmjojlacpgdomaaGreatDoor.hd ws.tail.tail))) with
          | false =>
            have hq0 : q = 0 := by rw [← Hq.out, h12]; rfl
            have hq2 : (q == 2) = false := by rw [hq0]; rfl
            clear hq0 h12
            have Hsc := Lib.hid (scan_place ws 2 Hop.out (.inr (.inl rfl)) (by rw [Hq.out]; intro e; rw [e] at hq2; cases hq2))
            rcases r2 with _ | ⟨y, r⟩
            · have hsl : ∃ a c, w7.cell? ⟨pb, 0, none⟩ = some (.slice a 0 c) := by obtain ⟨v, hrow, a, c, rfl, _⟩ := hR6; exact ⟨a, c, row_cell hrow 0⟩
              obtain ⟨a, c, hsl⟩ := hsl
              have hpl : isPlus ws.tail.tail.tail = false := by rw [← Hr2.out]; rfl
              have hR8 := hR6.set (y := ⟨q, num32 (Go.Proofs.YtmjojlacpgdomaaGreatDoor.hd ws.tail), adr32 (Go.Proofs.YtmjojlacpgdomaaGreatDoor.hd ws.tail.tail), false, 0, 0, .zero⟩) 3 (.bool false) rfl
              have hB8 := hB7.setCell (p := ⟨pb, 4, none⟩) rfl (.bool false)
              have hE8 := hE7.but ((But.refl pb w7).setCell (p := ⟨pb, 4, none⟩) rfl (.bool false))
              have hk6 := hR6.cell 3
              have hf6 := hR6.hot
              have hk8 := hR8.cell 0
              have hk8' := hR8.cell 3
              simp only [Ins.cells, List.getElem?_cons_zero, List.getElem?_cons_succ] at hk6 hk8 hk8'
              have Hpl := Lib.hid hpl
              clear hpl
              go_wp2_with fail
              try simp only [fwd_ret, Exit.noGoto_ret, Exit.noGoto_normal, fwd_normal, Exit.then, Exit.inBlock]
              first | refine bodyPost_ret (results_none rfl _ _ _) rfl ?_ | refine bodyPost_end (results_none rfl _ _ _) rfl ?_
              exact ⟨rfl, ⟨_, by rw [Hsc.out, Hq.out, Hpl.out]; exact hR8⟩, hB8⟩
            have hsl : ∃ r0 o0 n c, w7.cell? ⟨pb, 0, none⟩ = some (.slice (some ⟨r0, o0, none⟩) (n + 1) c) ∧ w7.cell? ⟨r0, o0, none⟩ = some (.string y) := by
              obtain ⟨v, hrow, a, c, rfl, hl, hc, hx⟩ := hR6
              obtain ⟨r0, o0, rfl, _, hx⟩ := hx (by simp)
              exact ⟨r0, o0, r.length, c, row_cell hrow 0, by simpa using hx 0 y rfl⟩
            obtain ⟨r0, o0, n, c, hsl, hsx⟩ := hsl
            by_cases hy : y = ⟨#[43]⟩
            · subst hy
              have hpl : isPlus ws.tail.tail.tail = true := by rw [← Hr2.out]; simp [isPlus]
              have hR8 := hR6.set (y := ⟨q, num32 (Go.Proofs.YtmjojlacpgdomaaGreatDoor.hd ws.tail), adr32 (Go.Proofs.YtmjojlacpgdomaaGreatDoor.hd ws.tail.tail), true, 0, 0, .zero⟩) 3 (.bool true) rfl
              have hB8 := hB7.setCell (p := ⟨pb, 4, none⟩) rfl (.bool true)
              have hE8 := hE7.but ((But.refl pb w7).setCell (p := ⟨pb, 4, none⟩) rfl (.bool true))
              have hk6 := hR6.cell 3
              have hf6 := hR6.hot
              have hk8 := hR8.cell 0
              have hk8' := hR8.cell 3
              simp only [Ins.cells, List.getElem?_cons_zero, List.getElem?_cons_succ] at hk6 hk8 hk8'
              have Hpl := Lib.hid hpl
              clear hpl
              go_wp2_with (first | (go_at_call 135; (with_reducible refine (next_any pb _ _ _ hR8).mono ?_); rintro e w9 ⟨rfl, hR9, hb9⟩; have hk9 := hR9.cell 0; simp only [Ins.cells, List.getElem?_cons_zero] at hk9))
              try simp only [fwd_ret, Exit.noGoto_ret, Exit.noGoto_normal, fwd_normal, Exit.then, Exit.inBlock]
              first | refine bodyPost_ret (results_none rfl _ _ _) rfl ?_ | refine bodyPost_end (results_none rfl _ _ _) rfl ?_
              exact ⟨rfl, ⟨_, by rw [Hsc.out, Hq.out, Hpl.out]; exact hR9⟩, (hB8.trans hb9)⟩
            · have hpl : isPlus ws.tail.tail.tail = false := by rw [← Hr2.out]; exact decide_eq_false hy
              have hyn : (y.toList == [43]) = false := str_ne hy
              clear hy
              have hR8 := hR6.set (y := ⟨q, num32 (Go.Proofs.YtmjojlacpgdomaaGreatDoor.hd ws.tail), adr32 (Go.Proofs.YtmjojlacpgdomaaGreatDoor.hd ws.tail.tail), false, 0, 0, .zero⟩) 3 (.bool false) rfl
              have hB8 := hB7.setCell (p := ⟨pb, 4, none⟩) rfl (.bool false)
              have hE8 := hE7.but ((But.refl pb w7).setCell (p := ⟨pb, 4, none⟩) rfl (.bool false))
              have hk6 := hR6.cell 3
              have hf6 := hR6.hot
              have hk8 := hR8.cell 0
              have hk8' := hR8.cell 3
              simp only [Ins.cells, List.getElem?_cons_zero, List.getElem?_cons_succ] at hk6 hk8 hk8'
              have Hpl := Lib.hid hpl
              clear hpl
              go_wp2_with fail
              try simp only [fwd_ret, Exit.noGoto_ret, Exit.noGoto_normal, fwd_normal, Exit.then, Exit.inBlock]
              first | refine bodyPost_ret (results_none rfl _ _ _) rfl ?_ | refine bodyPost_end (results_none rfl _ _ _) rfl ?_
              exact ⟨rfl, ⟨_, by rw [Hsc.out, Hq.out, Hpl.out]; exact hR8⟩, hB8⟩
          | true =>
            have hq0 : q = 2 := by rw [← Hq.out, h12]; rfl
            subst hq0
            rcases r2 with _ | ⟨y, r⟩
            · have hsl : ∃ a c, w7.cell? ⟨pb, 0, none⟩ = some (.slice a 0 c) := by obtain ⟨v, hrow, a, c, rfl, _⟩ := hR6; exact ⟨a, c, row_cell hrow 0⟩
              obtain ⟨a, c, hsl⟩ := hsl
              have hpl : isPlus ws.tail.tail.tail = false := by rw [← Hr2.out]; rfl
              have hR8 := hR6.set (y := ⟨2, num32 (Go.Proofs.YtmjojlacpgdomaaGreatDoor.hd ws.tail), adr32 (Go.Proofs.YtmjojlacpgdomaaGreatDoor.hd ws.tail.tail), false, 0, 0, .zero⟩) 3 (.bool false) rfl
              have hB8 := hB7.setCell (p := ⟨pb, 4, none⟩) rfl (.bool false)
              have hE8 := hE7.but ((But.refl pb w7).setCell (p := ⟨pb, 4, none⟩) rfl (.bool false))
              have hk6 := hR6.cell 3
              have hf6 := hR6.hot
              have hk8 := hR8.cell 0
              have hk8' := hR8.cell 3
              simp only [Ins.cells, List.getElem?_cons_zero, List.getElem?_cons_succ] at hk6 hk8 hk8'
              have hr3z : (Go.Proofs.YtmjojlacpgdomaaGreatDoor.hd ([] : List ByteArray)).size ≤ 140737488351232 := by rw [← Hr2.out] at hz2; exact hz2.hd'
              have hsc := scan_store ws Hop.out h12 ([] : List ByteArray) (by rw [hpl, ← Hr2.out]; rfl)
              rw [hpl] at hsc
              have Hsc := Lib.hid hsc
              clear hsc hpl h12
              have hne5 : (opIf (puOk (hex32 (Go.Proofs.YtmjojlacpgdomaaGreatDoor.hd ([] : List ByteArray)))) 2 == 5) = false := by cases puOk (hex32 (Go.Proofs.YtmjojlacpgdomaaGreatDoor.hd ([] : List ByteArray))) <;> rfl
              go_wp2_with fail
              go_step3
              go_wp2_with (go_at_call 136; (with_reducible refine (scan16_any pb ([] : List ByteArray) _ _ hR8 hE8 (hr3z)).mono ?_); rintro e w10 ⟨rfl, hR10, hb10⟩; have hx10 := hR10.hot; have hk10_0 := hR10.cell 0; have hk10_4 := hR10.cell 4; simp only [Ins.kill, Ins.cells, List.getElem?_cons_zero, List.getElem?_cons_succ] at hk10_0 hk10_4)
              try simp only [fwd_ret, Exit.noGoto_ret, Exit.noGoto_normal, fwd_normal, Exit.then, Exit.inBlock]
              first | refine bodyPost_ret (results_none rfl _ _ _) rfl ?_ | refine bodyPost_end (results_none rfl _ _ _) rfl ?_
              exact ⟨rfl, ⟨_, by rw [Hsc.out]; exact hR10.set 4 _ rfl⟩, (hB8.trans hb10).setCell rfl _⟩
            have hsl : ∃ r0 o0 n c, w7.cell? ⟨pb, 0, none⟩ = some (.slice (some ⟨r0, o0, none⟩) (n + 1) c) ∧ w7.cell? ⟨r0, o0, none⟩ = some (.string y) := by
              obtain ⟨v, hrow, a, c, rfl, hl, hc, hx⟩ := hR6
              obtain ⟨r0, o0, rfl, _, hx⟩ := hx (by simp)
              exact ⟨r0, o0, r.length, c, row_cell hrow 0, by simpa using hx 0 y rfl⟩
            obtain ⟨r0, o0, n, c, hsl, hsx⟩ := hsl
            by_cases hy : y = ⟨#[43]⟩
            · subst hy
              have hpl : isPlus ws.tail.tail.tail = true := by rw [← Hr2.out]; simp [isPlus]
              have hR8 := hR6.set (y := ⟨2, num32 (Go.Proofs.YtmjojlacpgdomaaGreatDoor.hd ws.tail), adr32 (Go.Proofs.YtmjojlacpgdomaaGreatDoor.hd ws.tail.tail), true, 0, 0, .zero⟩) 3 (.bool true) rfl
              have hB8 := hB7.setCell (p := ⟨pb, 4, none⟩) rfl (.bool true)
              have hE8 := hE7.but ((But.refl pb w7).setCell (p := ⟨pb, 4, none⟩) rfl (.bool true))
              have hk6 := hR6.cell 3
              have hf6 := hR6.hot
              have hk8 := hR8.cell 0
              have hk8' := hR8.cell 3
              simp only [Ins.cells, List.getElem?_cons_zero, List.getElem?_cons_succ] at hk6 hk8 hk8'
              have hr3z : (Go.Proofs.YtmjojlacpgdomaaGreatDoor.hd r).size ≤ 140737488351232 := by rw [← Hr2.out] at hz2; exact hz2.tail.hd'
              have hsc := scan_store ws Hop.out h12 r (by rw [hpl, ← Hr2.out]; rfl)
              rw [hpl] at hsc
              have Hsc := Lib.hid hsc
              clear hsc hpl h12
              have hne5 : (opIf (puOk (hex32 (Go.Proofs.YtmjojlacpgdomaaGreatDoor.hd r))) 2 == 5) = false := by cases puOk (hex32 (Go.Proofs.YtmjojlacpgdomaaGreatDoor.hd r)) <;> rfl
              go_wp2_with (first | (go_at_call 135; (with_reducible refine (next_any pb _ _ _ hR8).mono ?_); rintro e w9 ⟨rfl, hR9, hb9⟩; have hk9 := hR9.cell 0; simp only [Ins.cells, List.getElem?_cons_zero] at hk9))
              go_step3
              go_wp2_with (go_at_call 136; (with_reducible refine (scan16_any pb r _ _ hR9 (hE8.but hb9) (hr3z)).mono ?_); rintro e w10 ⟨rfl, hR10, hb10⟩; have hx10 := hR10.hot; have hk10_0 := hR10.cell 0; have hk10_4 := hR10.cell 4; simp only [Ins.kill, Ins.cells, List.getElem?_cons_zero, List.getElem?_cons_succ] at hk10_0 hk10_4)
              try simp only [fwd_ret, Exit.noGoto_ret, Exit.noGoto_normal, fwd_normal, Exit.then, Exit.inBlock]
              first | refine bodyPost_ret (results_none rfl _ _ _) rfl ?_ | refine bodyPost_end (results_none rfl _ _ _) rfl ?_
              exact ⟨rfl, ⟨_, by rw [Hsc.out]; exact hR10.set 4 _ rfl⟩, ((hB8.trans hb9).trans hb10).setCell rfl _⟩
            · have hpl : isPlus ws.tail.tail.tail = false := by rw [← Hr2.out]; exact decide_eq_false hy
              have hyn : (y.toList == [43]) = false := str_ne hy
              clear hy
              have hR8 := hR6.set (y := ⟨2, num32 (Go.Proofs.YtmjojlacpgdomaaGreatDoor.hd ws.tail), adr32 (Go.Proofs.YtmjojlacpgdomaaGreatDoor.hd ws.tail.tail), false, 0, 0, .zero⟩) 3 (.bool false) rfl
              have hB8 := hB7.setCell (p := ⟨pb, 4, none⟩) rfl (.bool false)
              have hE8 := hE7.but ((But.refl pb w7).setCell (p := ⟨pb, 4, none⟩) rfl (.bool false))
              have hk6 := hR6.cell 3
              have hf6 := hR6.hot
              have hk8 := hR8.cell 0
              have hk8' := hR8.cell 3
              simp only [Ins.cells, List.getElem?_cons_zero, List.getElem?_cons_succ] at hk6 hk8 hk8'
              have hr3z : (Go.Proofs.YtmjojlacpgdomaaGreatDoor.hd (y :: r)).size ≤ 140737488351232 := by rw [← Hr2.out] at hz2; exact hz2.hd'
              have hsc := scan_store ws Hop.out h12 (y :: r) (by rw [hpl, ← Hr2.out]; rfl)
              rw [hpl] at hsc
              have Hsc := Lib.hid hsc
              clear hsc hpl h12
              have hne5 : (opIf (puOk (hex32 (Go.Proofs.YtmjojlacpgdomaaGreatDoor.hd (y :: r)))) 2 == 5) = false := by cases puOk (hex32 (Go.Proofs.YtmjojlacpgdomaaGreatDoor.hd (y :: r))) <;> rfl
              go_wp2_with fail
              go_step3
              go_wp2_with (go_at_call 136; (with_reducible refine (scan16_any pb (y :: r) _ _ hR8 hE8 (hr3z)).mono ?_); rintro e w10 ⟨rfl, hR10, hb10⟩; have hx10 := hR10.hot; have hk10_0 := hR10.cell 0; have hk10_4 := hR10.cell 4; simp only [Ins.kill, Ins.cells, List.getElem?_cons_zero, List.getElem?_cons_succ] at hk10_0 hk10_4)
              try simp only [fwd_ret, Exit.noGoto_ret, Exit.noGoto_normal, fwd_normal, Exit.then, Exit.inBlock]
              first | refine bodyPost_ret (results_none rfl _ _ _) rfl ?_ | refine bodyPost_end (results_none rfl _ _ _) rfl ?_
              exact ⟨rfl, ⟨_, by rw [Hsc.out]; exact hR10.set 4 _ rfl⟩, (hB8.trans hb10).setCell rfl _⟩
        · go_wp2_with fail
          go_step3
          refine ⟨_, rfl, ?_⟩
          go_upto_region 20 with (first | (go_at_call 136; (with_reducible refine (scan10_any pb ws.tail _ wr (hRr) (hE2) (hz.tail.hd')).mono ?_); rintro e w4 ⟨rfl, hR4, hb4⟩; have hE4 := (hE2).but hb4) | (go_at_call 136; (with_reducible refine (scan16_any pb ws.tail.tail _ w4 (hR4) (hE4) (hz.tail.tail.hd')).mono ?_); rintro e w5 ⟨rfl, hR5, hb5⟩; have hE5 := (hE4).but hb5; have hx5 := hR5.hot; have hk5_1 := hR5.cell 1; have hk5_2 := hR5.cell 2; simp only [Ins.kill, Ins.cells, List.getElem?_cons_zero, List.getElem?_cons_succ] at hk5_1 hk5_2; have hR6 := (hR5.set (y := ⟨opIf (puOk (hex32 (Go.Proofs.YtmjojlacpgdomaaGreatDoor.hd ws.tail.tail))) (opIf (puOk (dec32 (Go.Proofs.YtmjojlacpgdomaaGreatDoor.hd ws.tail))) 3), num32 (Go.Proofs.YtmjojlacpgdomaaGreatDoor.hd ws.tail), 0, false, 0, 0, .zero⟩) 1 (.int .i64 (num32 (Go.Proofs.YtmjojlacpgdomaaGreatDoor.hd ws.tail) : Nat)) rfl).set (y := ⟨opIf (puOk (hex32 (Go.Proofs.YtmjojlacpgdomaaGreatDoor.hd ws.tail.tail))) (opIf (puOk (dec32 (Go.Proofs.YtmjojlacpgdomaaGreatDoor.hd ws.tail))) 3), num32 (Go.Proofs.YtmjojlacpgdomaaGreatDoor.hd ws.tail), adr32 (Go.Proofs.YtmjojlacpgdomaaGreatDoor.hd ws.tail.tail), false, 0, 0, .zero⟩) 2 (.int .u32 (adr32 (Go.Proofs.YtmjojlacpgdomaaGreatDoor.hd ws.tail.tail) : Nat)) rfl; have hb6 := ((hb4.trans hb5).setCell (p := ⟨pb, 2, none⟩) rfl (.int .i64 (num32 (Go.Proofs.YtmjojlacpgdomaaGreatDoor.hd ws.tail) : Nat))).setCell (p := ⟨pb, 3, none⟩) rfl (.int .u32 (adr32 (Go.Proofs.YtmjojlacpgdomaaGreatDoor.hd ws.tail.tail) : Nat))))
          clear hx5 hk5_1 hk5_2 hR4 hb4 hE4 hR5 hb5 hE5 hRr hf0 hc0
          rw [HO.out] at hR6
          have hE7 := hE2.but hb6
          have hB7 := hB2.trans hb6
          clear hb6 hE2 hB2
          generalize (w5.setCell ⟨pb, 2, none⟩ (.int .i64 (num32 (Go.Proofs.YtmjojlacpgdomaaGreatDoor.hd ws.tail) : Nat))).setCell ⟨pb, 3, none⟩ (.int .u32 (adr32 (Go.Proofs.YtmjojlacpgdomaaGreatDoor.hd ws.tail.tail) : Nat)) = w7 at hR6 hE7 hB7 ⊢
          generalize hq : opIf (puOk (dec32 (Go.Proofs.YtmjojlacpgdomaaGreatDoor.hd ws.tail)) && puOk (hex32 (Go.Proofs.YtmjojlacpgdomaaGreatDoor.hd ws.tail.tail))) 3 = q at hR6
          have hr2 := hR6
          obtain ⟨r2, hr2e⟩ : ∃ r2, r2 = ws.tail.tail.tail := ⟨_, rfl⟩
          rw [← hr2e] at hR6
          have Hr2 := Lib.hid hr2e
          have Hq := Lib.hid hq
          clear hr2 hr2e hq
          have hq2 : (q == 2) = false := by rw [← Hq.out]; cases (puOk (dec32 (Go.Proofs.YtmjojlacpgdomaaGreatDoor.hd ws.tail)) && puOk (hex32 (Go.Proofs.YtmjojlacpgdomaaGreatDoor.hd ws.tail.tail))) <;> rfl
          have Hsc := Lib.hid (scan_place ws 3 Hop.out (.inr (.inr rfl)) (by rw [Hq.out]; intro e; rw [e] at hq2; cases hq2))
          rcases r2 with _ | ⟨y, r⟩
          · have hsl : ∃ a c, w7.cell? ⟨pb, 0, none⟩ = some (.slice a 0 c) := by obtain ⟨v, hrow, a, c, rfl, _⟩ := hR6; exact ⟨a, c, row_cell hrow 0⟩
            obtain ⟨a, c, hsl⟩ := hsl
            have hpl : isPlus ws.tail.tail.tail = false := by rw [← Hr2.out]; rfl
            have hR8 := hR6.set (y := ⟨q, num32 (Go.Proofs.YtmjojlacpgdomaaGreatDoor.hd ws.tail), adr32 (Go.Proofs.YtmjojlacpgdomaaGreatDoor.hd ws.tail.tail), false, 0, 0, .zero⟩) 3 (.bool false) rfl
            have hB8 := hB7.setCell (p := ⟨pb, 4, none⟩) rfl (.bool false)
            have hE8 := hE7.but ((But.refl pb w7).setCell (p := ⟨pb, 4, none⟩) rfl (.bool false))
            have hk6 := hR6.cell 3
            have hf6 := hR6.hot
            have hk8 := hR8.cell 0
            have hk8' := hR8.cell 3
            simp only [Ins.cells, List.getElem?_cons_zero, List.getElem?_cons_succ] at hk6 hk8 hk8'
            have Hpl := Lib.hid hpl
            clear hpl
            go_wp2_with fail
            try simp only [fwd_ret, Exit.noGoto_ret, Exit.noGoto_normal, fwd_normal, Exit.then, Exit.inBlock]
            first | refine bodyPost_ret (results_none rfl _ _ _) rfl ?_ | refine bodyPost_end (results_none rfl _ _ _) rfl ?_
            exact ⟨rfl, ⟨_, by rw [Hsc.out, Hq.out, Hpl.out]; exact hR8⟩, hB8⟩
          have hsl : ∃ r0 o0 n c, w7.cell? ⟨pb, 0, none⟩ = some (.slice (some ⟨r0, o0, none⟩) (n + 1) c) ∧ w7.cell? ⟨r0, o0, none⟩ = some (.string y) := by
            obtain ⟨v, hrow, a, c, rfl, hl, hc, hx⟩ := hR6
            obtain ⟨r0, o0, rfl, _, hx⟩ := hx (by simp)
            exact ⟨r0, o0, r.length, c, row_cell hrow 0, by simpa using hx 0 y rfl⟩
          obtain ⟨r0, o0, n, c, hsl, hsx⟩ := hsl
          by_cases hy : y = ⟨#[43]⟩
          · subst hy
            have hpl : isPlus ws.tail.tail.tail = true := by rw [← Hr2.out]; simp [isPlus]
            have hR8 := hR6.set (y := ⟨q, num32 (Go.Proofs.YtmjojlacpgdomaaGreatDoor.hd ws.tail), adr32 (Go.Proofs.YtmjojlacpgdomaaGreatDoor.hd ws.tail.tail), true, 0, 0, .zero⟩) 3 (.bool true) rfl
            have hB8 := hB7.setCell (p := ⟨pb, 4, none⟩) rfl (.bool true)
            have hE8 := hE7.but ((But.refl pb w7).setCell (p := ⟨pb, 4, none⟩) rfl (.bool true))
            have hk6 := hR6.cell 3
            have hf6 := hR6.hot
            have hk8 := hR8.cell 0
            have hk8' := hR8.cell 3
            simp only [Ins.cells, List.getElem?_cons_zero, List.getElem?_cons_succ] at hk6 hk8 hk8'
            have Hpl := Lib.hid hpl
            clear hpl
            go_wp2_with (first | (go_at_call 135; (with_reducible refine (next_any pb _ _ _ hR8).mono ?_); rintro e w9 ⟨rfl, hR9, hb9⟩; have hk9 := hR9.cell 0; simp only [Ins.cells, List.getElem?_cons_zero] at hk9))
            try simp only [fwd_ret, Exit.noGoto_ret, Exit.noGoto_normal, fwd_normal, Exit.then, Exit.inBlock]
            first | refine bodyPost_ret (results_none rfl _ _ _) rfl ?_ | refine bodyPost_end (results_none rfl _ _ _) rfl ?_
            exact ⟨rfl, ⟨_, by rw [Hsc.out, Hq.out, Hpl.out]; exact hR9⟩, (hB8.trans hb9)⟩
          · have hpl : isPlus ws.tail.tail.tail = false := by rw [← Hr2.out]; exact decide_eq_false hy
            have hyn : (y.toList == [43]) = false := str_ne hy
            clear hy
            have hR8 := hR6.set (y := ⟨q, num32 (Go.Proofs.YtmjojlacpgdomaaGreatDoor.hd ws.tail), adr32 (Go.Proofs.YtmjojlacpgdomaaGreatDoor.hd ws.tail.tail), false, 0, 0, .zero⟩) 3 (.bool false) rfl
            have hB8 := hB7.setCell (p := ⟨pb, 4, none⟩) rfl (.bool false)
            have hE8 := hE7.but ((But.refl pb w7).setCell (p := ⟨pb, 4, none⟩) rfl (.bool false))
            have hk6 := hR6.cell 3
            have hf6 := hR6.hot
            have hk8 := hR8.cell 0
            have hk8' := hR8.cell 3
            simp only [Ins.cells, List.getElem?_cons_zero, List.getElem?_cons_succ] at hk6 hk8 hk8'
            have Hpl := Lib.hid hpl
            clear hpl
            go_wp2_with fail
            try simp only [fwd_ret, Exit.noGoto_ret, Exit.noGoto_normal, fwd_normal, Exit.then, Exit.inBlock]
            first | refine bodyPost_ret (results_none rfl _ _ _) rfl ?_ | refine bodyPost_end (results_none rfl _ _ _) rfl ?_
            exact ⟨rfl, ⟨_, by rw [Hsc.out, Hq.out, Hpl.out]; exact hR8⟩, hB8⟩
      by_cases h9 : op = 9
      · subst h9
        have hsc := scan_9 ws Hop.out
        obtain ⟨v, hrow, hstr⟩ := hRr
        have hpbl := heap_lt hrow
        have hv0 := row_cell hrow 0
        simp only [List.getElem?_cons_zero] at hv0
        have hjn := join_strs pb v ws.tail wr hstr (by omega) (by simp; omega) (by omega)
        have hsz : ((⟨(Lib.join (ws.tail.map (·.data.toList)) [32]).toArray⟩ : ByteArray)).size ≤ 1000000 := by show (Lib.join (ws.tail.map (·.data.toList)) [32]).length ≤ 1000000; exact hJ
        change scanIns ws = ⟨9, 0, 0, false, 0, 0, readC ⟨(Lib.join (ws.tail.map (·.data.toList)) [32]).toArray⟩⟩ at hsc
        generalize (⟨(Lib.join (ws.tail.map (·.data.toList)) [32]).toArray⟩ : ByteArray) = SS at hjn hsz hsc
        have hcr := fun W hG => cread_any SS hsz W hG
        clear hJ hN hsz
        have hbb : ∀ x, But pb wr x → But pb w x := fun x hx => hB2.trans hx
        cases hrd : readCmd SS with
        | some c =>
          have he : readE SS = 0 := by unfold readE; rw [hrd]; rfl
          rw [he] at hcr
          clear he hrd
          obtain ⟨cc, hcc⟩ : ∃ cc, cc = readC SS := ⟨_, rfl⟩
          rw [← hcc] at hsc hcr
          have Hsc := Lib.hid hsc
          clear hsc
          clear hcc
          go_wp2_with (first | (go_at_call 55; (with_reducible refine hjn.mono ?_); rintro e w4 ⟨rfl, hb4⟩; have hrow4 := (hb4.block pb (heap_lt hrow)).trans hrow) | (go_at_call 137; (with_reducible refine (hcr w4 (hE2.but (But.of hb4)).glob).mono ?_); rintro e w5 ⟨rfl, hb5⟩; have hrow5 := (hb5.block pb (heap_lt hrow4)).trans hrow4) | ((guard_target =~ wpList _ _ _ [_, _] _ _); (refine wpl_store 31 _ _ rfl ?_ w5.heap.size 0 31 _ cc.cells (heap_alloc_new w5 _) rfl rfl ?_ ?_ ?_ cc.cells rfl ?_); (· rfl); (· kernel_rfl); (· exact Nat.le_of_ble_eq_true rfl); (· rfl); simp only [setRow_new]; have hrow6 := (Below.heap_alloc w5 (.cells cc.cells.toArray 31) _ (heap_lt hrow5)).trans hrow5) | ((with_reducible refine wpl_load 31 _ rfl ?_ w5.heap.size 0 ?_ _ _ (CellsAt.of_block (heap_alloc_new w5 _)) Tryz.underlying31 rfl ?_ ?_); (· rfl); (· rfl); (· kernel_rfl)) | ((guard_target =~ wpList _ _ _ [_] _ _); (refine wpl_store 31 _ _ rfl ?_ pb 7 102 _ cc.cells hrow6 rfl rfl ?_ ?_ ?_ (v :: (Ins.cells ⟨9, 0, 0, false, 0, 0, cc⟩)) rfl ?_); (· rfl); (· kernel_rfl); (· exact Nat.le_of_ble_eq_true rfl); (· rfl)))
          try simp only [fwd_ret, Exit.noGoto_ret, Exit.noGoto_normal, fwd_normal, Exit.then, Exit.inBlock]
          first | refine bodyPost_ret (results_none rfl _ _ _) rfl ?_ | refine bodyPost_end (results_none rfl _ _ _) rfl ?_
          exact ⟨rfl, ⟨_, by rw [Hsc.out]; exact Sc.row (x := ⟨9, 0, 0, false, 0, 0, .zero⟩) hrow6 (((hstr.but hpbl (But.of hb4)).but (heap_lt hrow4) (But.of hb5)).but (heap_lt hrow5) (But.of ((Below.refl _ _).alloc (Nat.le_refl _) _)))⟩, hbb _ ((((But.of hb4).trans (But.of hb5)).trans (But.of ((Below.refl _ _).alloc (Nat.le_refl _) _))).rowAt _)⟩
        | none =>
          have he : readE SS = 8 := by unfold readE; rw [hrd]; rfl
          have hz0 : readC SS = .zero := by unfold readC; rw [hrd]; rfl
          rw [he] at hcr
          clear he hrd
          obtain ⟨cc, hcc⟩ : ∃ cc, cc = readC SS := ⟨_, rfl⟩
          rw [← hcc] at hsc hcr
          have Hsc := Lib.hid hsc
          clear hsc
          have Hz0 := Lib.hid (hcc.trans hz0)
          clear hcc hz0
          go_wp2_with (first | (go_at_call 55; (with_reducible refine hjn.mono ?_); rintro e w4 ⟨rfl, hb4⟩; have hrow4 := (hb4.block pb (heap_lt hrow)).trans hrow) | (go_at_call 137; (with_reducible refine (hcr w4 (hE2.but (But.of hb4)).glob).mono ?_); rintro e w5 ⟨rfl, hb5⟩; have hrow5 := (hb5.block pb (heap_lt hrow4)).trans hrow4) | ((guard_target =~ wpList _ _ _ [_, _] _ _); (refine wpl_store 31 _ _ rfl ?_ w5.heap.size 0 31 _ cc.cells (heap_alloc_new w5 _) rfl rfl ?_ ?_ ?_ cc.cells rfl ?_); (· rfl); (· kernel_rfl); (· exact Nat.le_of_ble_eq_true rfl); (· rfl); simp only [setRow_new]; have hrow6 := (Below.heap_alloc w5 (.cells cc.cells.toArray 31) _ (heap_lt hrow5)).trans hrow5))
          try simp only [fwd_ret, Exit.noGoto_ret, Exit.noGoto_normal, fwd_normal, Exit.then, Exit.inBlock]
          first | refine bodyPost_ret (results_none rfl _ _ _) rfl ?_ | refine bodyPost_end (results_none rfl _ _ _) rfl ?_
          exact ⟨rfl, ⟨_, by rw [show scanIns ws = ⟨9, 0, 0, false, 0, 0, .zero⟩ by rw [Hsc.out, Hz0.out]]; exact ⟨v, hrow6, (((hstr.but hpbl (But.of hb4)).but (heap_lt hrow4) (But.of hb5)).but (heap_lt hrow5) (But.of ((Below.refl _ _).alloc (Nat.le_refl _) _)))⟩⟩, hbb _ (((But.of hb4).trans (But.of hb5)).trans (But.of ((Below.refl _ _).alloc (Nat.le_refl _) _)))⟩
      have Hsc := Lib.hid (scan_rest ws op Hop.out (by omega) (by omega) (by omega) h5 h6 h7 h8 h9)
      have b1 : (op == 1) = false := beq_eq_false_iff_ne.2 (by omega)
      have b2 : (op == 2) = false := beq_eq_false_iff_ne.2 (by omega)
      have b3 : (op == 3) = false := beq_eq_false_iff_ne.2 (by omega)
      have b5 : (op == 5) = false := beq_eq_false_iff_ne.2 (by omega)
      have b6 : (op == 6) = false := beq_eq_false_iff_ne.2 (by omega)
      have b7 : (op == 7) = false := beq_eq_false_iff_ne.2 (by omega)
      have b8 : (op == 8) = false := beq_eq_false_iff_ne.2 (by omega)
      have b9 : (op == 9) = false := beq_eq_false_iff_ne.2 (by omega)
      clear hp h5 h6 h7 h8 h9
      go_wp2_with fail
      try simp only [fwd_ret, Exit.noGoto_ret, Exit.noGoto_normal, fwd_normal, Exit.then, Exit.inBlock]
      first | refine bodyPost_ret (results_none rfl _ _ _) rfl ?_ | refine bodyPost_end (results_none rfl _ _ _) rfl ?_
      exact ⟨rfl, ⟨_, by rw [Hsc.out]; exact hRr⟩, hB2⟩
end Go.Proofs.YtmjojlacpgdomaaGreatDoor
