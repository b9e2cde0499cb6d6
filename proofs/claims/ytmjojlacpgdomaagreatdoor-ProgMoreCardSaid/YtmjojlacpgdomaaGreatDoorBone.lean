import Derived.Test.YtmjojlacpgdomaaGreatDoorBscan
/-! prog.One. -/
namespace Go.Proofs.YtmjojlacpgdomaaGreatDoor
set_option linter.unusedSimpArgs false
set_option linter.unusedVariables false
open Go Go.RowKit
attribute [local go_sem] setRow_new setRow_old
theorem join_tail_le (c : UInt8) : ∀ xs : List (List UInt8), (Lib.join xs.tail [c]).length ≤ (Lib.join xs [c]).length
  | [] => Nat.le_refl _
  | [x] => by simp [Lib.join_nil]
  | x :: y :: r => by rw [List.tail_cons, join_cons2]; simp; omega
theorem cut_join (c : UInt8) (s : ByteArray) : (Lib.join ((cut c s).tail.map (·.data.toList)) [c]).length ≤ s.size := by
  have e : (cut c s).map (·.data.toList) = parts c s.data.toList := by
    unfold cut
    rw [List.map_map]
    have e2 : ((fun x : ByteArray => x.data.toList) ∘ mk) = id := by funext l; exact mk_data l
    rw [e2, List.map_id]
  have h := join_tail_le c (parts c s.data.toList)
  rw [join_parts] at h
  rw [List.map_tail, e]
  have hs : s.data.toList.length = s.size := Array.length_toList
  omega
theorem readC_fit (s : ByteArray) : (readC s).Fit := by
  unfold readC
  cases h : readCmd s with
  | none => exact zero_fit
  | some c =>
    unfold readCmd at h
    split at h
    · obtain rfl : (scanCmd (cut 32 s)).1 = c := by simpa using h
      exact scan_fit _
    · cases h
theorem scanIns_fit (ws : List ByteArray) : (scanIns ws).Fit := by
  have hz := zero_fit
  have h1 := adr32_le (hd ws.tail)
  have h2 := adr32_le (hd ws.tail.tail)
  have h3 := adr32_le (hd (if isPlus ws.tail.tail.tail then ws.tail.tail.tail.tail else ws.tail.tail.tail))
  have h4 := dec32_le (hd ws.tail)
  have h5 := readC_fit (mk (Lib.join (ws.tail.map (·.data.toList)) [32]))
  unfold scanIns
  simp only
  split
  · split
    · exact ⟨by simp; omega, by simp; omega, hz⟩
    · exact ⟨by simp; omega, by simp, hz⟩
  split
  · split
    · exact ⟨by simp, by simp; omega, hz⟩
    · exact ⟨by simp, by simp; omega, hz⟩
  split
  · exact ⟨by simp, by simp; omega, hz⟩
  split
  · exact ⟨by simp, by simp, hz⟩
  split
  · exact ⟨by simp, by simp; omega, hz⟩
  split
  · exact ⟨by simp, by simp, h5⟩
  · exact ⟨by simp, by simp, hz⟩
def oneI (s : ByteArray) : Ins := (readIns s).getD .zero
def oneE (s : ByteArray) : Int := if (readIns s).isSome then 0 else 8
theorem readIns_eq (s : ByteArray) : readIns s = if insRight (scanIns (cut 32 s)) && decide (mk (insText (scanIns (cut 32 s))) = s) then some (scanIns (cut 32 s)) else none := rfl
theorem CellsAt.of_blockAt {w : World} {b : Nat} {v : Value} {cs : List Value} {t : TypeId} {fr : Nat × Nat} (h : w.heap[b]? = some (.cells (v :: cs).toArray t fr)) : CellsAt w b 1 cs := by
  intro j u hj
  simp only [World.cell?, h]
  rw [show 1 + j = j + 1 by omega]
  simpa using hj
set_option maxRecDepth 100000 in
set_option maxHeartbeats 4000000 in
theorem one_any (s : ByteArray) (hs : s.size ≤ 900000) (w : World) (hG : Glob w) :
    Calls Tryz.prog 23 #[.string s] w fun e w' => e = .returned (.tuple #[.agg (oneI s).cells.toArray, .int .i64 (oneE s)]) ∧ Below w.heap.size w w' := by
  have hws := cut_small' 32 s (by omega)
  have hwl := (cut_small 32 s).1
  have hwj := cut_join 32 s
  have hfit := scanIns_fit (cut 32 s)
  have hrd := Lib.hid (readIns_eq s)
  obtain ⟨ws, hws0⟩ : ∃ ws, ws = cut 32 s := ⟨_, rfl⟩
  rw [← hws0] at hws hwl hwj hfit hrd
  have hsp := split_any s (by omega) 32
  rw [← hws0] at hsp
  clear hws0
  go_enter Tryz.func23, Tryz.ntmps23
  go_upto_region 2 with (go_at_call 56; (with_reducible refine (hsp _ (by exact hG.alloc _)).mono ?_); rintro e w1 ⟨rfl, rfl⟩)
  have hR0 : Sc (w.heap.size + 1 + 1) (((w.alloc (.cells #[.int .i64 0, .int .i64 0, .int .u32 0, .bool false, .int .u32 0, .int .i64 0, .int .i64 0, .int .i64 0, .int .i64 0, .int .i64 0, .bool false, .int .i64 0, .int .u32 0, .int .u32 0, .bool false, .bool false, .int .i64 0, .bool false] 33)).alloc (.cells (ws.map Value.string).toArray 9)).alloc (.cells #[.slice (some ⟨w.heap.size + 1, 0, none⟩) ws.length ws.length, .int .i64 0, .int .i64 0, .int .u32 0, .bool false, .int .u32 0, .int .i64 0, .int .i64 0, .int .i64 0, .int .i64 0, .int .i64 0, .bool false, .int .i64 0, .int .u32 0, .int .u32 0, .bool false, .bool false, .int .i64 0, .bool false] 102)) ws .zero := ⟨.slice (some ⟨w.heap.size + 1, 0, none⟩) ws.length ws.length, by ((try (simp only [alloc_drew, heap_drew])); first | exact heap_alloc_new _ _ | exact hp1 _ _ _ | exact hp2 _ _ _ _ | exact hp3 _ _ _ _ _ | exact hq1 _ _ _ | exact hq2 _ _ _ _ | exact hq3 _ _ _ _ _ | exact hr2 _ _ _ _ | exact hr3 _ _ _ _ _ | (simp; done)), ⟨_, _, rfl, Nat.le_refl _, by omega, fun _ => ⟨w.heap.size + 1, 0, rfl, by omega, fun j x hj => by
    have : ((((w.alloc (.cells #[.int .i64 0, .int .i64 0, .int .u32 0, .bool false, .int .u32 0, .int .i64 0, .int .i64 0, .int .i64 0, .int .i64 0, .int .i64 0, .bool false, .int .i64 0, .int .u32 0, .int .u32 0, .bool false, .bool false, .int .i64 0, .bool false] 33)).alloc (.cells (ws.map Value.string).toArray 9)).alloc (.cells #[.slice (some ⟨w.heap.size + 1, 0, none⟩) ws.length ws.length, .int .i64 0, .int .i64 0, .int .u32 0, .bool false, .int .u32 0, .int .i64 0, .int .i64 0, .int .i64 0, .int .i64 0, .int .i64 0, .bool false, .int .i64 0, .int .u32 0, .int .u32 0, .bool false, .bool false, .int .i64 0, .bool false] 102))).heap[w.heap.size + 1]? = some (.cells (ws.map Value.string).toArray 9 (0, 0)) := by ((try (simp only [alloc_drew, heap_drew])); first | exact heap_alloc_new _ _ | exact hp1 _ _ _ | exact hp2 _ _ _ _ | exact hp3 _ _ _ _ _ | exact hq1 _ _ _ | exact hq2 _ _ _ _ | exact hq3 _ _ _ _ _ | exact hr2 _ _ _ _ | exact hr3 _ _ _ _ _ | (simp; done))
    simp only [World.cell?, this, Nat.zero_add]; simpa using hj⟩⟩⟩
  have hZ0 : ((((w.alloc (.cells #[.int .i64 0, .int .i64 0, .int .u32 0, .bool false, .int .u32 0, .int .i64 0, .int .i64 0, .int .i64 0, .int .i64 0, .int .i64 0, .bool false, .int .i64 0, .int .u32 0, .int .u32 0, .bool false, .bool false, .int .i64 0, .bool false] 33)).alloc (.cells (ws.map Value.string).toArray 9)).alloc (.cells #[.slice (some ⟨w.heap.size + 1, 0, none⟩) ws.length ws.length, .int .i64 0, .int .i64 0, .int .u32 0, .bool false, .int .u32 0, .int .i64 0, .int .i64 0, .int .i64 0, .int .i64 0, .int .i64 0, .bool false, .int .i64 0, .int .u32 0, .int .u32 0, .bool false, .bool false, .int .i64 0, .bool false] 102))).heap[w.heap.size]? = some (.cells #[.int .i64 0, .int .i64 0, .int .u32 0, .bool false, .int .u32 0, .int .i64 0, .int .i64 0, .int .i64 0, .int .i64 0, .int .i64 0, .bool false, .int .i64 0, .int .u32 0, .int .u32 0, .bool false, .bool false, .int .i64 0, .bool false] 33 (0, 0)) := by ((try (simp only [alloc_drew, heap_drew])); first | exact heap_alloc_new _ _ | exact hp1 _ _ _ | exact hp2 _ _ _ _ | exact hp3 _ _ _ _ _ | exact hq1 _ _ _ | exact hq2 _ _ _ _ | exact hq3 _ _ _ _ _ | exact hr2 _ _ _ _ | exact hr3 _ _ _ _ _ | (simp; done))
  have hB0 : Below w.heap.size w (((w.alloc (.cells #[.int .i64 0, .int .i64 0, .int .u32 0, .bool false, .int .u32 0, .int .i64 0, .int .i64 0, .int .i64 0, .int .i64 0, .int .i64 0, .bool false, .int .i64 0, .int .u32 0, .int .u32 0, .bool false, .bool false, .int .i64 0, .bool false] 33)).alloc (.cells (ws.map Value.string).toArray 9)).alloc (.cells #[.slice (some ⟨w.heap.size + 1, 0, none⟩) ws.length ws.length, .int .i64 0, .int .i64 0, .int .u32 0, .bool false, .int .u32 0, .int .i64 0, .int .i64 0, .int .i64 0, .int .i64 0, .int .i64 0, .bool false, .int .i64 0, .int .u32 0, .int .u32 0, .bool false, .bool false, .int .i64 0, .bool false] 102)) := by (show Below _ _ _; repeat (first | exact Below.refl _ _ | assumption | refine Below.drew ?_ | refine Below.alloc ?_ (by first | omega | (simp; done) | (simp; omega) | (simp [World.setCell]; omega)) _ | refine Below.setCell ?_ (by first | omega | (simp; done) | (simp; omega) | (simp [World.setCell]; omega)) _ | refine below_setRow ?_ (by first | omega | (simp; done) | (simp; omega) | (simp [World.setCell]; omega)) _ | (refine Below.trans ?_ (Below.mono (by assumption) (by first | omega | (simp; done) | (simp; omega) | (simp [World.setCell]; omega))))))
  have hE0 : Env (w.heap.size + 1 + 1) (((w.alloc (.cells #[.int .i64 0, .int .i64 0, .int .u32 0, .bool false, .int .u32 0, .int .i64 0, .int .i64 0, .int .i64 0, .int .i64 0, .int .i64 0, .bool false, .int .i64 0, .int .u32 0, .int .u32 0, .bool false, .bool false, .int .i64 0, .bool false] 33)).alloc (.cells (ws.map Value.string).toArray 9)).alloc (.cells #[.slice (some ⟨w.heap.size + 1, 0, none⟩) ws.length ws.length, .int .i64 0, .int .i64 0, .int .u32 0, .bool false, .int .u32 0, .int .i64 0, .int .i64 0, .int .i64 0, .int .i64 0, .int .i64 0, .bool false, .int .i64 0, .int .u32 0, .int .u32 0, .bool false, .bool false, .int .i64 0, .bool false] 102)) := ⟨w, hG, by omega, hB0⟩
  generalize (((w.alloc (.cells #[.int .i64 0, .int .i64 0, .int .u32 0, .bool false, .int .u32 0, .int .i64 0, .int .i64 0, .int .i64 0, .int .i64 0, .int .i64 0, .bool false, .int .i64 0, .int .u32 0, .int .u32 0, .bool false, .bool false, .int .i64 0, .bool false] 33)).alloc (.cells (ws.map Value.string).toArray 9)).alloc (.cells #[.slice (some ⟨w.heap.size + 1, 0, none⟩) ws.length ws.length, .int .i64 0, .int .i64 0, .int .u32 0, .bool false, .int .u32 0, .int .i64 0, .int .i64 0, .int .i64 0, .int .i64 0, .int .i64 0, .bool false, .int .i64 0, .int .u32 0, .int .u32 0, .bool false, .bool false, .int .i64 0, .bool false] 102)) = w0 at hR0 hZ0 hB0 hE0 ⊢
  obtain ⟨pb, hpb⟩ : ∃ pb, pb = w.heap.size + 1 + 1 := ⟨_, rfl⟩
  rw [← hpb] at hR0 hE0 ⊢
  have hpb1 : w.heap.size < pb := by omega
  clear hpb hsp
  go_upto_region 3 with (go_at_call 62; (with_reducible refine (scan_any pb ws w0 hR0 hE0 hws (by omega) (by omega)).mono ?_); rintro e w2 ⟨rfl, ⟨ws', hR2⟩, hb2⟩)
  have hE2 := hE0.but hb2
  have hB2 := hB0.trans (hb2.below (by omega) hB0.size)
  have hZ2 := (hb2.block _ (heap_lt hZ0) (by omega)).trans hZ0
  clear hR0 hZ0 hB0 hE0 hws hwl hwj hb2
  generalize scanIns ws = x at hR2 hfit hrd
  obtain ⟨v, hrow, _⟩ := hR2
  have hG2 := hE2.glob
  cases hcr : insRight x with
  | false =>
    have Hc := Lib.hid hcr
    have hn0 : readIns s = none := by rw [hrd.out]; simp [hcr]
    have Hn := Lib.hid hn0
    clear hn0 hrd hcr
    go_wp2_with (first | ((with_reducible refine wpl_load 33 _ rfl ?_ pb 1 ?_ _ _ (CellsAt.of_blockAt (v := v) hrow) Tryz.underlying33 rfl ?_ ?_); (· rfl); (· rfl); (· kernel_rfl)) | (go_at_call 22; (with_reducible refine (line_no x _ hfit Hc.out).mono ?_); rintro e ws1 ⟨rfl, hbs⟩; have hZs := (hbs.block _ (heap_lt hZ2)).trans hZ2; have hrs := (hbs.block _ (heap_lt hrow)).trans hrow) | ((guard_target =~ wpList _ _ _ (_ :: _) _ _); (refine wpl_store 33 _ _ rfl ?_ w.heap.size 0 33 _ Ins.zero.cells hZs rfl rfl ?_ ?_ ?_ Ins.zero.cells rfl ?_); (· rfl); (· kernel_rfl); (· exact Nat.le_of_ble_eq_true rfl); (· rfl)))
    have hn := Hn.out
    refine bodyPost_ret (results_cell_row2 (p := 2) (u := 3) (ty := 33) rfl _ _ w.heap.size 33 (Ins.zero.cells).toArray (0, 0) _ rfl (setRow_heap _ _ _ _ _ _ hZs) Tryz.underlying33 rfl (by kernel_rfl)) rfl ⟨?_, below_setRow (hB2.trans (hbs.mono hB2.size)) (Nat.le_refl _) _⟩
    rw [show oneI s = .zero by simp [oneI, hn], show oneE s = 8 by simp [oneE, hn]]
    rfl
  | true =>
    have Hc := Lib.hid hcr
    clear hcr
    by_cases ht : (⟨(insText x).toArray⟩ : ByteArray) = s
    · have hn0 : readIns s = some x := by rw [hrd.out]; simp [Hc.out, mk, ht]
      have Hn := Lib.hid hn0
      clear hn0 hrd
      subst ht
      go_wp2_with (first | ((with_reducible refine wpl_load 33 _ rfl ?_ pb 1 ?_ _ _ (CellsAt.of_blockAt (v := v) hrow) Tryz.underlying33 rfl ?_ ?_); (· rfl); (· rfl); (· kernel_rfl)) | ((with_reducible refine wpl_load 33 _ rfl ?_ pb 1 ?_ _ _ (CellsAt.of_blockAt (v := v) hrs) Tryz.underlying33 rfl ?_ ?_); (· rfl); (· rfl); (· kernel_rfl)) | (go_at_call 22; (with_reducible refine (line_yes x _ hG2 hfit Hc.out).mono ?_); rintro e ws1 ⟨rfl, hbs⟩; have hZs := (hbs.block _ (heap_lt hZ2)).trans hZ2; have hrs := (hbs.block _ (heap_lt hrow)).trans hrow) | ((guard_target =~ wpList _ _ _ (_ :: _) _ _); (refine wpl_store 33 _ _ rfl ?_ w.heap.size 0 33 _ x.cells hZs rfl rfl ?_ ?_ ?_ x.cells rfl ?_); (· rfl); (· kernel_rfl); (· exact Nat.le_of_ble_eq_true rfl); (· rfl)))
      have hn := Hn.out
      refine bodyPost_ret (results_cell_row2 (p := 2) (u := 3) (ty := 33) rfl _ _ w.heap.size 33 (x.cells).toArray (0, 0) _ rfl (setRow_heap _ _ _ _ _ _ hZs) Tryz.underlying33 rfl (by kernel_rfl)) rfl ⟨?_, below_setRow (hB2.trans (hbs.mono hB2.size)) (Nat.le_refl _) _⟩
      rw [show oneI ⟨(insText x).toArray⟩ = x by simp [oneI, hn], show oneE ⟨(insText x).toArray⟩ = 0 by simp [oneE, hn]]
      rfl
    · have hn0 : readIns s = none := by rw [hrd.out]; simp [mk, ht]
      have Hn := Lib.hid hn0
      clear hn0 hrd
      have ht1 : (insText x == s.toList) = false := str_ne2 ht
      go_wp2_with (first | ((with_reducible refine wpl_load 33 _ rfl ?_ pb 1 ?_ _ _ (CellsAt.of_blockAt (v := v) hrow) Tryz.underlying33 rfl ?_ ?_); (· rfl); (· rfl); (· kernel_rfl)) | (go_at_call 22; (with_reducible refine (line_yes x _ hG2 hfit Hc.out).mono ?_); rintro e ws1 ⟨rfl, hbs⟩; have hZs := (hbs.block _ (heap_lt hZ2)).trans hZ2; have hrs := (hbs.block _ (heap_lt hrow)).trans hrow) | ((guard_target =~ wpList _ _ _ (_ :: _) _ _); (refine wpl_store 33 _ _ rfl ?_ w.heap.size 0 33 _ Ins.zero.cells hZs rfl rfl ?_ ?_ ?_ Ins.zero.cells rfl ?_); (· rfl); (· kernel_rfl); (· exact Nat.le_of_ble_eq_true rfl); (· rfl)))
      have hn := Hn.out
      refine bodyPost_ret (results_cell_row2 (p := 2) (u := 3) (ty := 33) rfl _ _ w.heap.size 33 (Ins.zero.cells).toArray (0, 0) _ rfl (setRow_heap _ _ _ _ _ _ hZs) Tryz.underlying33 rfl (by kernel_rfl)) rfl ⟨?_, below_setRow (hB2.trans (hbs.mono hB2.size)) (Nat.le_refl _) _⟩
      rw [show oneI s = .zero by simp [oneI, hn], show oneE s = 8 by simp [oneE, hn]]
      rfl
end Go.Proofs.YtmjojlacpgdomaaGreatDoor
