import Derived.MapKept
import Derived.ChangeMaps4
import Derived.Maps.RangeRun
/-! A map whose block is known whole: insert, look up, range. -/
namespace Go.Proofs.YtmjojlacpgdomaaGreatDoor
set_option linter.unusedSimpArgs false
set_option linter.unusedVariables false
open Go Go.ChangeMaps
section
variable {P : Program}
theorem setBlock_new (w : World) (o o' : Obj) : setBlock (w.alloc o) w.heap.size o' = w.alloc o' := by
  cases w with
  | mk heap tape drawn os output =>
    simp only [World.alloc, setBlock]
    congr 1
    apply Array.ext_getElem?
    intro k
    simp only [Array.getElem?_setIfInBounds, Array.getElem?_push, Array.size_push]
    by_cases h : k = heap.size
    · subst h; simp
    · have h' : heap.size ≠ k := fun e => h e.symm
      simp [h, h']
theorem run_insert_new (w : World) {t k e : TypeId} {q : IntKind} {n : Int} {v : Value} {es : Array MapEntry} {clock : Nat} (ht : P.underlying t = some (.map k e)) (hk : P.underlying k = some (.int q))
    (hn : Instr.findNow (.int q) (.int q n) es.toList 0 = some none) :
    (Instr.mapUpdate t (.map (some w.heap.size)) (.int q n) v).run P (w.alloc (.map es clock)) = .ok () (w.alloc (.map (es.push ⟨.int q n, v, clock⟩) (clock + 1))) := by
  have hb : (w.alloc (.map es clock)).heap[w.heap.size]? = some (.map es clock) := (MapKept.heap_alloc w _).1
  have hc : (Instr.checkKey false 10000 k (.int q n)).run P (w.alloc (.map es clock)) = .ok () (w.alloc (.map es clock)) := MapKept.run_checkKey (k := .int q n) hk (by simp [MapKept.IsKey]) false 9999
  have hs : ∀ o', { (w.alloc (.map es clock)) with heap := (w.alloc (.map es clock)).heap.setIfInBounds w.heap.size o' } = w.alloc o' := fun o' => setBlock_new w _ o'
  simp [Instr.mapUpdate, run_underlying ht, MapKept.run_getObj_map hb, hc, MapKept.run_findKey hk hn, MapKept.run_setObj_map _ hb, Result.andThen]
  exact hs _
theorem run_lookup_known (w : World) {t k e : TypeId} {q : IntKind} {n : Int} {v : Value} {b i : Nat} {es : Array MapEntry} {clock : Nat} (ht : P.underlying t = some (.map k e)) (hk : P.underlying k = some (.int q))
    (hb : w.heap[b]? = some (.map es clock)) (hn : Instr.findNow (.int q) (.int q n) es.toList 0 = some (some (i, v))) (c : Bool) :
    (Instr.lookup t (.map (some b)) (.int q n) c).run P w = .ok (if c then .tuple #[v, .bool true] else v) w := by
  have hc : (Instr.checkKey es.isEmpty 10000 k (.int q n)).run P w = .ok () w := MapKept.run_checkKey (k := .int q n) hk (by simp [MapKept.IsKey]) _ 9999
  simp [Instr.lookup, run_underlying ht, MapKept.run_getObj_map hb, hc, MapKept.run_findKey hk hn, Result.andThen]
theorem run_lookup_none (w : World) {t k e : TypeId} {q : IntKind} {n : Int} {z : Value} {b : Nat} {es : Array MapEntry} {clock : Nat} (ht : P.underlying t = some (.map k e)) (hk : P.underlying k = some (.int q))
    (hb : w.heap[b]? = some (.map es clock)) (hn : Instr.findNow (.int q) (.int q n) es.toList 0 = some none) (hz : (zeroValue e).run P w = .ok z w) (c : Bool) :
    (Instr.lookup t (.map (some b)) (.int q n) c).run P w = .ok (if c then .tuple #[z, .bool false] else z) w := by
  have hc : (Instr.checkKey es.isEmpty 10000 k (.int q n)).run P w = .ok () w := MapKept.run_checkKey (k := .int q n) hk (by simp [MapKept.IsKey]) _ 9999
  simp [Instr.lookup, run_underlying ht, MapKept.run_getObj_map hb, hc, MapKept.run_findKey hk hn, hz, Result.andThen]
end
end Go.Proofs.YtmjojlacpgdomaaGreatDoor
