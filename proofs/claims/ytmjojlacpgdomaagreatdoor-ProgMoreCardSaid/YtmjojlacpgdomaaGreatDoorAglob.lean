import Derived.Test.YtmjojlacpgdomaaGreatDoorAbase
import Derived.Test.YtmjojlacpgdomaaGreatDoorShelf
import Derived.WalkSmall
import Derived.ChangeAgain
/-! What the library's variables hold, kept by every call that only lays new blocks; the library's functions that the program calls. -/
namespace Go.Proofs.YtmjojlacpgdomaaGreatDoor
set_option linter.unusedSimpArgs false
set_option linter.unusedVariables false
open Go Go.RowKit
/-- The library's variables hold what they are laid with. -/
structure Glob (w : World) : Prop where
  pow : Lib.TabIs Tryz.prog w "internal/strconv.uint64pow10" .u64 Lib.pow10Tab
  syn : ∃ tp p, w.var? Tryz.prog "strconv.ErrSyntax" = some #[.iface tp p]
  rng : ∃ tp p, w.var? Tryz.prog "strconv.ErrRange" = some #[.iface tp p]
  tz : w.cell? ⟨7, 15, none⟩ = some (.int .u8 4)
  shp : w.ShapedOpen Tryz.prog
theorem var_kept {w w' : World} {n : String} {cs : Array Value} (h : Below w.heap.size w w') (hv : w.var? Tryz.prog n = some cs) : w'.var? Tryz.prog n = some cs := by
  unfold World.var? at hv
  cases hg : Tryz.prog.globalNamed n with
  | none => simp [hg] at hv
  | some g =>
    have hlt : g < w.heap.size := by
      simp only [hg, Option.bind_some] at hv
      cases hh : w.heap[g]? with
      | none => simp [hh] at hv
      | some o => exact (Array.getElem?_eq_some_iff.1 hh).1
    exact var?_below (B := w.heap.size) h hg hlt (by unfold World.var?; exact hv)
theorem Glob.below {w w' : World} (h : Glob w) (hb : Below w.heap.size w w') : Glob w' where
  pow := var_kept hb h.pow
  syn := let ⟨tp, p, e⟩ := h.syn; ⟨tp, p, var_kept hb e⟩
  rng := let ⟨tp, p, e⟩ := h.rng; ⟨tp, p, var_kept hb e⟩
  tz := (hb.cell (p := ⟨7, 15, none⟩) (World.block_lt_of_cell? w ⟨7, 15, none⟩ h.tz)).trans h.tz
  shp := h.shp.keptBut (hb.frame (fun _ => False)) (fun _ h => h.elim)
theorem Glob.alloc {w : World} (h : Glob w) (o : Obj) : Glob (w.alloc o) := h.below ((Below.refl _ _).alloc (Nat.le_refl _) o)
theorem Glob.drew {w : World} (h : Glob w) : Glob w.drew := h.below ((Below.refl _ _).drew)
def str (l : List UInt8) : Value := .string ⟨l.toArray⟩
/-- A whole number's text. -/
theorem itoa_any (n : Int) (h0 : -9223372036854775808 ≤ n) (h1 : n ≤ 9223372036854775807) (w : World) (hG : Glob w) :
    Calls Tryz.prog 59 #[.int .i64 n] w fun e w' => e = .returned (.string ⟨(Lib.itoa n).toArray⟩) ∧ Below w.heap.size w w' := by
  refine (Tryz.strconv_Itoa n h0 h1 w hG.pow).mono ?_
  rintro e w' ⟨rfl, k, os, rfl⟩
  exact ⟨rfl, rfl, rfl, rfl, by simp [Sort.grow, World.drewN], fun j hj => by
    show ((w.heap ++ os)[j]? : Option Obj) = w.heap[j]?
    rw [Array.getElem?_append_left hj]⟩
end Go.Proofs.YtmjojlacpgdomaaGreatDoor
