import Derived.Test.YtmjojlacpgdomaaGreatDoorBmore
import Derived.Test.YtmjojlacpgdomaaGreatDoorRows
import Derived.ProofKit
import Derived.LaidMore
import Derived.OpenShut
import Derived.LaidLaws
import Derived.MakeChecks
import Derived.HandedShaped
import Derived.Deep.Slices
import Derived.Lib.LaidTab
/-! What a row's condition gives: the library's variables; instructions opened. -/
namespace Go.Proofs.YtmjojlacpgdomaaGreatDoor
set_option linter.unusedSimpArgs false
set_option linter.unusedVariables false
open Go Go.ChangeShapes Go.WideShapes Go.ChangeAt Go.RowKit
theorem Tryz.own' : ownKnob Tryz.prog.godebug = none := by kernel_rfl
theorem Tryz.laidOut' : laidOutB Tryz.prog = true := by kernel_rfl
theorem gPow : Tryz.prog.globalNamed "internal/strconv.uint64pow10" = some 1 := by kernel_rfl
theorem tPow : (Tryz.prog.globals[1]?).map (·.type) = some 306 := by kernel_rfl
theorem gSyn : Tryz.prog.globalNamed "strconv.ErrSyntax" = some 4 := by kernel_rfl
theorem tSyn : (Tryz.prog.globals[4]?).map (·.type) = some 179 := by kernel_rfl
theorem gRng : Tryz.prog.globalNamed "strconv.ErrRange" = some 5 := by kernel_rfl
theorem tRng : (Tryz.prog.globals[5]?).map (·.type) = some 179 := by kernel_rfl
theorem g64 : Tryz.prog.globalNamed "math/bits.deBruijn64tab" = some 7 := by kernel_rfl
theorem t64 : (Tryz.prog.globals[7]?).map (·.type) = some 330 := by kernel_rfl
def tab64 : List Int := [0, 1, 56, 2, 57, 49, 28, 3, 61, 58, 42, 50, 38, 29, 17, 4, 62, 47, 59, 36, 45, 43, 51, 22, 53, 39, 33, 30, 24, 18, 12, 5, 63, 55, 48, 27, 60, 41, 37, 16, 46, 35, 44, 21, 52, 32, 23, 11, 54, 26, 40, 15, 34, 20, 31, 10, 25, 14, 19, 9, 13, 8, 7, 6]
theorem tab64_is : (Rows.laid_math_bits_deBruijn64tab : DataW Unit) = Lib.tabData .u8 tab64 := by kernel_rfl
theorem pow_is : (Rows.laid_internal_strconv_uint64pow10 : DataW Unit) = Lib.tabData .u64 Lib.pow10Tab := by kernel_rfl
set_option maxRecDepth 100000 in
/-- What the row's condition gives the walks. -/
theorem glob_of_laid {W : World} (h : laidMetH Tryz.prog Rows.progMoreRow.laid W) (hsh : W.ShapedOpen Tryz.prog) : Glob W := by
  rw [MakeChecks.laidMetH_plain _ _ _ (by kernel_rfl)] at h
  obtain ⟨ps, ⟨g0, t0, cs0, f0, p0, q0, hg0, ht0, hv0, hd0, ⟨g1, t1, cs1, f1, p1, q1, hg1, ht1, hv1, hd1, ⟨g2, t2, cs2, f2, p2, q2, hg2, ht2, hv2, hd2, ⟨g3, t3, cs3, f3, p3, q3, hg3, ht3, hv3, hd3, ⟨g4, t4, cs4, f4, p4, q4, hg4, ht4, hv4, hd4, ⟨g5, t5, cs5, f5, p5, q5, hg5, ht5, hv5, hd5, _, _⟩, _⟩, _⟩, _⟩, _⟩, _⟩, _, _⟩ := h
  obtain rfl := Option.some.inj (g64.symm.trans hg1)
  obtain rfl := Option.some.inj (t64.symm.trans ht1)
  obtain rfl := Option.some.inj (gPow.symm.trans hg2)
  obtain rfl := Option.some.inj (tPow.symm.trans ht2)
  obtain rfl := Option.some.inj (gRng.symm.trans hg4)
  obtain rfl := Option.some.inj (tRng.symm.trans ht4)
  obtain rfl := Option.some.inj (gSyn.symm.trans hg5)
  obtain rfl := Option.some.inj (tSyn.symm.trans ht5)
  rw [tab64_is] at hd1
  rw [pow_is] at hd2
  have e1 := Lib.cells_of_tab Tryz.underlying330 Tryz.underlying5 (by kernel_rfl) (by kernel_rfl) hd1
  have e2 := Lib.cells_of_tab Tryz.underlying306 Tryz.underlying184 (by kernel_rfl) (by kernel_rfl) hd2
  obtain ⟨_, u4, v4, e4, _, _⟩ := iface_of_trod Tryz.underlying179 hd4
  obtain ⟨_, u5, v5, e5, _, _⟩ := iface_of_trod Tryz.underlying179 hd5
  refine ⟨?_, ⟨u5, v5, ?_⟩, ⟨u4, v4, ?_⟩, ?_, hsh⟩
  · show W.var? _ _ = _
    rw [hv2, ← e2]
  · rw [hv5]; congr 1; exact Array.toList_inj.1 e5
  · rw [hv4]; congr 1; exact Array.toList_inj.1 e4
  · have := World.var?_cell hg1 hv1 15
    rw [this, ← Array.getElem?_toList, e1]
    rfl
section
variable {H : Type} {enc : TypeId × Value → H} {w : World} {base n : Nat} {sp : Nat → Bool} {held : Bool}
theorem fld {fs : Array Field} {xs : List (DataW H × List MemPlace)} {cs : List Value} (hx : xs.length = fs.size)
    (hf : ∀ (i : Nat) (f : Field), fs[i]? = some f → DataW.trod enc Tryz.prog w base sp held n f.type ((cs.drop f.offset).take (Tryz.prog.cellsOf f.type)) = xs[i]?) (i : Nat) (f : Field) (h : fs[i]? = some f) :
    ∃ y, DataW.trod enc Tryz.prog w base sp held n f.type ((cs.drop f.offset).take (Tryz.prog.cellsOf f.type)) = some y :=
  ⟨_, (hf i f h).trans (List.getElem?_eq_getElem (by rw [hx]; exact (Array.getElem?_eq_some_iff.1 h).1))⟩
theorem one_at {cs : List Value} {o c : Nat} {v : Value} (hc : c = 1) (h : (cs.drop o).take c = [v]) : cs[o]? = some v := by
  subst hc
  have h2 := congrArg (fun l : List Value => l[0]?) h
  simpa [List.getElem?_take, List.getElem?_drop] using h2
theorem f_int {t : TypeId} {k : IntKind} {cs : List Value} {o : Nat} (ht : Tryz.prog.underlying t = some (.int k)) (hc : Tryz.prog.cellsOf t = 1) (h : ∃ y, DataW.trod enc Tryz.prog w base sp held n t ((cs.drop o).take (Tryz.prog.cellsOf t)) = some y) :
    ∃ z, cs[o]? = some (.int k z) ∧ (Lit.int k z).wf = true := by
  obtain ⟨y, h⟩ := h
  obtain ⟨z, hz, _, hw⟩ := DataW.trod_int ht h
  exact ⟨z, one_at hc hz, hw⟩
theorem f_bool {t : TypeId} {cs : List Value} {o : Nat} (ht : Tryz.prog.underlying t = some .bool) (hc : Tryz.prog.cellsOf t = 1) (h : ∃ y, DataW.trod enc Tryz.prog w base sp held n t ((cs.drop o).take (Tryz.prog.cellsOf t)) = some y) :
    ∃ z, cs[o]? = some (.bool z) := by
  obtain ⟨y, h⟩ := h
  obtain ⟨z, hz, _⟩ := DataW.trod_bool ht h
  exact ⟨z, one_at hc hz⟩
theorem c3' : Tryz.prog.cellsOf 3 = 1 := by kernel_rfl
theorem c4' : Tryz.prog.cellsOf 4 = 1 := by kernel_rfl
theorem c23' : Tryz.prog.cellsOf 23 = 1 := by kernel_rfl
theorem c24' : Tryz.prog.cellsOf 24 = 1 := by kernel_rfl
theorem c25' : Tryz.prog.cellsOf 25 = 1 := by kernel_rfl
theorem c29' : Tryz.prog.cellsOf 29 = 8 := by kernel_rfl
theorem c31' : Tryz.prog.cellsOf 31 = 12 := by kernel_rfl
theorem c33' : Tryz.prog.cellsOf 33 = 18 := by kernel_rfl
theorem u32_wf {z : Int} (h : (Lit.int .u32 z).wf = true) : 0 ≤ z ∧ z < 4294967296 := by
  simp only [Lit.wf, Bool.and_eq_true, decide_eq_true_eq] at h
  have h1 : IntKind.min .u32 = 0 := rfl
  have h2 : IntKind.max .u32 = 4294967295 := rfl
  omega
theorem list_of {cs ds : List Value} {m : Nat} (hl : cs.length = m) (hd : ds.length = m) (h : ∀ i, i < m → cs[i]? = ds[i]?) : cs = ds := by
  apply List.ext_getElem?
  intro i
  by_cases hi : i < m
  · exact h i hi
  · rw [List.getElem?_eq_none (by omega), List.getElem?_eq_none (by omega)]
theorem sub_at {cs : List Value} {o c j : Nat} {v : Value} (h : ((cs.drop o).take c)[j]? = some v) : cs[o + j]? = some v := by
  rw [List.getElem?_take] at h
  split at h
  · simpa using h
  · cases h
theorem reg_of_trod {fuel : Nat} {cs : List Value} {y : DataW H × List MemPlace} (h : DataW.trod enc Tryz.prog w base sp held fuel 29 cs = some y) : ∃ r : Reg, cs = r.cells ∧ (0 ≤ r.rf ∧ r.rf < 4294967296) ∧ (0 ≤ r.rt ∧ r.rt < 4294967296) := by
  obtain ⟨xs, m, _, _, hl, hx, hf⟩ := DataW.trod_struct Tryz.underlying29 h
  rw [c29'] at hl
  obtain ⟨z0, e0⟩ := f_bool Tryz.underlying4 c4' (fld hx hf 0 _ rfl)
  obtain ⟨z1, e1, _⟩ := f_int Tryz.underlying3 c3' (fld hx hf 1 _ rfl)
  obtain ⟨y2, h2⟩ := fld hx hf 2 _ rfl
  obtain ⟨xs2, m2, _, _, hl2, hx2, hf2⟩ := DataW.trod_struct Tryz.underlying27 h2
  obtain ⟨z2, e2, w2⟩ := f_int Tryz.underlying24 c24' (fld hx2 hf2 0 _ rfl)
  obtain ⟨z3, e3, w3⟩ := f_int Tryz.underlying24 c24' (fld hx2 hf2 1 _ rfl)
  have e2 := sub_at e2
  have e3 := sub_at e3
  obtain ⟨z4, e4⟩ := f_bool Tryz.underlying4 c4' (fld hx hf 3 _ rfl)
  obtain ⟨z5, e5⟩ := f_bool Tryz.underlying4 c4' (fld hx hf 4 _ rfl)
  obtain ⟨z6, e6, _⟩ := f_int Tryz.underlying3 c3' (fld hx hf 5 _ rfl)
  obtain ⟨z7, e7⟩ := f_bool Tryz.underlying4 c4' (fld hx hf 6 _ rfl)
  refine ⟨⟨z0, z1, z2, z3, z4, z5, z6, z7⟩, list_of hl rfl fun i hi => ?_, u32_wf w2, u32_wf w3⟩
  match i, hi with
  | 0, _ => exact e0
  | 1, _ => exact e1
  | 2, _ => exact e2
  | 3, _ => exact e3
  | 4, _ => exact e4
  | 5, _ => exact e5
  | 6, _ => exact e6
  | 7, _ => exact e7
theorem cmd_of_trod {fuel : Nat} {cs : List Value} {y : DataW H × List MemPlace} (h : DataW.trod enc Tryz.prog w base sp held fuel 31 cs = some y) : ∃ c : Cmd, cs = c.cells ∧ c.Fit := by
  obtain ⟨xs, m, _, _, hl, hx, hf⟩ := DataW.trod_struct Tryz.underlying31 h
  rw [c31'] at hl
  obtain ⟨z0, e0, _⟩ := f_int Tryz.underlying25 c25' (fld hx hf 0 _ rfl)
  obtain ⟨z1, e1, _⟩ := f_int Tryz.underlying3 c3' (fld hx hf 1 _ rfl)
  obtain ⟨z2, e2, _⟩ := f_int Tryz.underlying3 c3' (fld hx hf 2 _ rfl)
  obtain ⟨z3, e3, _⟩ := f_int Tryz.underlying3 c3' (fld hx hf 3 _ rfl)
  obtain ⟨y4, h4⟩ := fld hx hf 4 _ rfl
  obtain ⟨r, hr, hr1, hr2⟩ := reg_of_trod h4
  refine ⟨⟨z0, z1, z2, z3, r⟩, list_of hl rfl fun i hi => ?_, ?_⟩
  · by_cases h4' : i < 4
    · match i, h4' with
      | 0, _ => exact e0
      | 1, _ => exact e1
      | 2, _ => exact e2
      | 3, _ => exact e3
    · obtain ⟨j, rfl⟩ : ∃ j, i = 4 + j := ⟨i - 4, by omega⟩
      have hj : j < r.cells.length := by show j < 8; omega
      have h5 : ((cs.drop 4).take (Tryz.prog.cellsOf 29))[j]? = some (r.cells[j]) := by
        have h6 := congrArg (fun l : List Value => l[j]?) hr
        exact h6.trans (List.getElem?_eq_getElem hj)
      rw [sub_at h5, show 4 + j = j + 4 by omega]
      exact (List.getElem?_eq_getElem hj).symm
  · exact ⟨hr1, hr2⟩
theorem ins_of_trod {fuel : Nat} {cs : List Value} {y : DataW H × List MemPlace} (h : DataW.trod enc Tryz.prog w base sp held fuel 33 cs = some y) : ∃ x : Ins, cs = x.cells ∧ x.Fit := by
  obtain ⟨xs, m, _, _, hl, hx, hf⟩ := DataW.trod_struct Tryz.underlying33 h
  rw [c33'] at hl
  obtain ⟨z0, e0, _⟩ := f_int Tryz.underlying23 c23' (fld hx hf 0 _ rfl)
  obtain ⟨z1, e1, _⟩ := f_int Tryz.underlying3 c3' (fld hx hf 1 _ rfl)
  obtain ⟨z2, e2, w2⟩ := f_int Tryz.underlying24 c24' (fld hx hf 2 _ rfl)
  obtain ⟨z3, e3⟩ := f_bool Tryz.underlying4 c4' (fld hx hf 3 _ rfl)
  obtain ⟨z4, e4, w4⟩ := f_int Tryz.underlying24 c24' (fld hx hf 4 _ rfl)
  obtain ⟨z5, e5, _⟩ := f_int Tryz.underlying3 c3' (fld hx hf 5 _ rfl)
  obtain ⟨y6, h6⟩ := fld hx hf 6 _ rfl
  obtain ⟨c, hc, hfit⟩ := cmd_of_trod h6
  refine ⟨⟨z0, z1, z2, z3, z4, z5, c⟩, list_of hl rfl fun i hi => ?_, u32_wf w2, u32_wf w4, hfit⟩
  by_cases h6' : i < 6
  · match i, h6' with
    | 0, _ => exact e0
    | 1, _ => exact e1
    | 2, _ => exact e2
    | 3, _ => exact e3
    | 4, _ => exact e4
    | 5, _ => exact e5
  · obtain ⟨j, rfl⟩ : ∃ j, i = 6 + j := ⟨i - 6, by omega⟩
    have hj : j < c.cells.length := by show j < 12; omega
    have h5 : ((cs.drop 6).take (Tryz.prog.cellsOf 31))[j]? = some (c.cells[j]) := by
      have h7 := congrArg (fun l : List Value => l[j]?) hc
      exact h7.trans (List.getElem?_eq_getElem hj)
    rw [sub_at h5, show 6 + j = j + 6 by omega]
    exact (List.getElem?_eq_getElem hj).symm
theorem build_list (p : Nat → Ins → Prop) : ∀ (n : Nat), (∀ i, i < n → ∃ x, p i x) → ∃ l : List Ins, l.length = n ∧ ∀ i x, l[i]? = some x → p i x
  | 0, _ => ⟨[], rfl, fun i x h => by simp at h⟩
  | k + 1, hx => by
    obtain ⟨l, hl, hat⟩ := build_list p k fun i hi => hx i (by omega)
    obtain ⟨x, hp⟩ := hx k (by omega)
    refine ⟨l ++ [x], by simp [hl], fun i z hz => ?_⟩
    by_cases hik : i < l.length
    · rw [List.getElem?_append_left hik] at hz; exact hat i z hz
    · have hik2 : i = k := by
        have := (List.getElem?_eq_some_iff.1 hz).1
        simp at this; omega
      subst hik2
      rw [List.getElem?_append_right (by omega)] at hz
      simp [hl] at hz
      subst hz
      exact hp
/-- A slice of instructions, opened. -/
theorem open_prog {fuel : Nat} {cs : List Value} {y : DataW H × List MemPlace} (h : DataW.trod enc Tryz.prog w base sp held fuel 22 cs = some y) :
    ∃ (ao : Option Addr) (l : List Ins) (c : Nat), cs = [.slice ao l.length c] ∧ SlI w (.slice ao l.length c) l ∧ (ao = none → c = 0) ∧ (∀ x ∈ l, x.Fit) ∧ l.length ≤ 9223372036854775807 := by
  rcases Go.Deep.open_slice Tryz.underlying22 h with ⟨rfl, _⟩ | ⟨a, len, cap, m, n, D, Pl, rfl, hb, hlc, hcm, hm, _, hi⟩
  · exact ⟨none, [], 0, rfl, ⟨none, 0, rfl, Nat.le_refl _, fun h => (h rfl).elim⟩, fun _ => rfl, fun x hx => by simp at hx, by simp⟩
  · rw [c33'] at hi
    have hml : len ≤ m := by rw [hm]; split <;> omega
    have hx : ∀ i, i < len → ∃ x : Ins, x.Fit ∧ w.cells? base (a.add (i * 18)) 18 = some x.cells := fun i h => by
      obtain ⟨cs', hc, ht⟩ := hi i (by omega)
      obtain ⟨x, rfl, hf⟩ := ins_of_trod ht
      exact ⟨x, hf, hc⟩
    obtain ⟨l, hl, hat⟩ := build_list (fun i x => x.Fit ∧ w.cells? base (a.add (i * 18)) 18 = some x.cells) len hx
    subst hl
    refine ⟨some a, l, cap, rfl, ⟨some a, cap, rfl, hlc, fun hne => ?_⟩, (fun h => by cases h), fun x hx => ?_, by unfold maxLen at hcm; omega⟩
    · obtain ⟨b, o, sp'⟩ := a
      have hlen : 0 < l.length := List.length_pos_iff.2 hne
      have h0 := hat 0 _ (List.getElem?_eq_getElem hlen)
      obtain ⟨_, _, hc0⟩ := World.cells?_some h0.2
      have h00 := hc0 0 (by decide)
      rw [show (l[0].cells)[0]? = some (.int .i64 l[0].op) from rfl] at h00
      have hsp : sp' = none := by
        cases sp' with
        | none => rfl
        | some s =>
          simp only [World.cell?, Addr.add] at h00
          split at h00 <;> simp at h00
      subst hsp
      refine ⟨b, o, rfl, World.block_lt_of_cell? w _ h00, fun j x hj i u hu => ?_⟩
      obtain ⟨_, _, hcj⟩ := World.cells?_some (hat j x hj).2
      have h5 := hcj i (by have := (List.getElem?_eq_some_iff.1 hu).1; exact this)
      rw [hu, Addr.add_lit, Addr.add_lit] at h5
      exact h5
    · obtain ⟨j, hj, rfl⟩ := List.getElem_of_mem hx
      exact (hat j _ (List.getElem?_eq_getElem hj)).1
end
end Go.Proofs.YtmjojlacpgdomaaGreatDoor
