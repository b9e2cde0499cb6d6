import Derived.Test.YtmjojlacpgdomaaGreatDoorProg
import Derived.WalkKit
import Derived.WalkLawsBesides
import Derived.WalkSpells
import Derived.Laws.StructEq
/-! '==' of the program's structs as one Bool (types 33 Instr, 31 Conf, 29 Region, 27 Reach, 65 Device, 67 Input). -/
namespace Go.Proofs.YtmjojlacpgdomaaGreatDoor
set_option linter.unusedSimpArgs false
set_option linter.unusedVariables false
open Go Go.RowKit
section
variable {P : Program} {d : Nat} {xs ys : Array Value} {f : Field} {fs : List Field} {a b : Value} {r s : Bool} {w : World}
theorem seq_more (hn : (f.name == "_") = false) (ha : (part f.type xs f.offset).run P w = .ok a w) (hb : (part f.type ys f.offset).run P w = .ok b w)
    (he : (Op.equalIn d f.type a b).run P w = .ok r w) (hr : (Op.eqFields d xs ys fs).run P w = .ok s w) : (Op.eqFields d xs ys (f :: fs)).run P w = .ok (r && s) w := by
  have hn' : f.name ≠ "_" := by simpa using hn
  unfold Op.eqFields
  rw [if_pos hn']
  simp only [Sem.run_bind, ha, hb, he, Result.andThen_ok]
  cases r with
  | false => simp
  | true => simpa using hr
theorem seq_one (hn : (f.name == "_") = false) (ha : (part f.type xs f.offset).run P w = .ok a w) (hb : (part f.type ys f.offset).run P w = .ok b w)
    (he : (Op.equalIn d f.type a b).run P w = .ok r w) : (Op.eqFields d xs ys [f]).run P w = .ok r w := by
  have h := seq_more (fs := []) (s := true) hn ha hb he (by simp [Op.eqFields])
  rwa [Bool.and_true] at h
theorem seq_of {t : TypeId} {fl : Array Field} (hu : P.underlying t = some (.struct fl)) (hp : P.stoodInHeld t = false) (h : (Op.eqFields d xs ys fl.toList).run P w = .ok r w) :
    (Op.equalIn (d + 1) t (.agg xs) (.agg ys)).run P w = .ok r w := by
  have hf : P.fieldsOf t = fl := by simp [Program.fieldsOf, hu]
  rw [run_equalIn_struct w d t xs ys (by rw [hf]; exact hu) hp, hf]
  exact h
end
theorem seq27 (d : Nat) (w : World) (x0 y0 : Int) (x1 y1 : Int) :
    (Op.equalIn (d + 2) 27 (.agg #[.int .u32 x0, .int .u32 x1]) (.agg #[.int .u32 y0, .int .u32 y1])).run Tryz.prog w = .ok (x0 == y0 && (x1 == y1)) w := by
  refine seq_of Tryz.underlying27 (by kernel_rfl) ?_
  refine seq_more (by rfl) (by go_simp; rfl) (by go_simp; rfl) (by go_simp) ?_
  exact seq_one (by rfl) (by go_simp; rfl) (by go_simp; rfl) (by go_simp)
theorem seq29 (d : Nat) (w : World) (x0 y0 : Bool) (x1 y1 : Int) (x2 y2 : Int) (x3 y3 : Int) (x4 y4 : Bool) (x5 y5 : Bool) (x6 y6 : Int) (x7 y7 : Bool) :
    (Op.equalIn (d + 3) 29 (.agg #[.bool x0, .int .i64 x1, .int .u32 x2, .int .u32 x3, .bool x4, .bool x5, .int .i64 x6, .bool x7]) (.agg #[.bool y0, .int .i64 y1, .int .u32 y2, .int .u32 y3, .bool y4, .bool y5, .int .i64 y6, .bool y7])).run Tryz.prog w = .ok (x0 == y0 && (x1 == y1 && ((x2 == y2 && (x3 == y3)) && (x4 == y4 && (x5 == y5 && (x6 == y6 && (x7 == y7))))))) w := by
  refine seq_of Tryz.underlying29 (by kernel_rfl) ?_
  refine seq_more (by rfl) (by go_simp; rfl) (by go_simp; rfl) (by go_simp) ?_
  refine seq_more (by rfl) (by go_simp; rfl) (by go_simp; rfl) (by go_simp) ?_
  refine seq_more (by rfl) (by go_simp) (by go_simp) (seq27 (d + 0) w _ _ _ _) ?_
  refine seq_more (by rfl) (by go_simp; rfl) (by go_simp; rfl) (by go_simp) ?_
  refine seq_more (by rfl) (by go_simp; rfl) (by go_simp; rfl) (by go_simp) ?_
  refine seq_more (by rfl) (by go_simp; rfl) (by go_simp; rfl) (by go_simp) ?_
  exact seq_one (by rfl) (by go_simp; rfl) (by go_simp; rfl) (by go_simp)
theorem seq31 (d : Nat) (w : World) (x0 y0 : Int) (x1 y1 : Int) (x2 y2 : Int) (x3 y3 : Int) (x4 y4 : Bool) (x5 y5 : Int) (x6 y6 : Int) (x7 y7 : Int) (x8 y8 : Bool) (x9 y9 : Bool) (x10 y10 : Int) (x11 y11 : Bool) :
    (Op.equalIn (d + 4) 31 (.agg #[.int .i64 x0, .int .i64 x1, .int .i64 x2, .int .i64 x3, .bool x4, .int .i64 x5, .int .u32 x6, .int .u32 x7, .bool x8, .bool x9, .int .i64 x10, .bool x11]) (.agg #[.int .i64 y0, .int .i64 y1, .int .i64 y2, .int .i64 y3, .bool y4, .int .i64 y5, .int .u32 y6, .int .u32 y7, .bool y8, .bool y9, .int .i64 y10, .bool y11])).run Tryz.prog w = .ok (x0 == y0 && (x1 == y1 && (x2 == y2 && (x3 == y3 && ((x4 == y4 && (x5 == y5 && ((x6 == y6 && (x7 == y7)) && (x8 == y8 && (x9 == y9 && (x10 == y10 && (x11 == y11)))))))))))) w := by
  refine seq_of Tryz.underlying31 (by kernel_rfl) ?_
  refine seq_more (by rfl) (by go_simp; rfl) (by go_simp; rfl) (by go_simp) ?_
  refine seq_more (by rfl) (by go_simp; rfl) (by go_simp; rfl) (by go_simp) ?_
  refine seq_more (by rfl) (by go_simp; rfl) (by go_simp; rfl) (by go_simp) ?_
  refine seq_more (by rfl) (by go_simp; rfl) (by go_simp; rfl) (by go_simp) ?_
  exact seq_one (by rfl) (by go_simp) (by go_simp) (seq29 (d + 0) w _ _ _ _ _ _ _ _ _ _ _ _ _ _ _ _)
theorem seq33 (d : Nat) (w : World) (x0 y0 : Int) (x1 y1 : Int) (x2 y2 : Int) (x3 y3 : Bool) (x4 y4 : Int) (x5 y5 : Int) (x6 y6 : Int) (x7 y7 : Int) (x8 y8 : Int) (x9 y9 : Int) (x10 y10 : Bool) (x11 y11 : Int) (x12 y12 : Int) (x13 y13 : Int) (x14 y14 : Bool) (x15 y15 : Bool) (x16 y16 : Int) (x17 y17 : Bool) :
    (Op.equalIn (d + 5) 33 (.agg #[.int .i64 x0, .int .i64 x1, .int .u32 x2, .bool x3, .int .u32 x4, .int .i64 x5, .int .i64 x6, .int .i64 x7, .int .i64 x8, .int .i64 x9, .bool x10, .int .i64 x11, .int .u32 x12, .int .u32 x13, .bool x14, .bool x15, .int .i64 x16, .bool x17]) (.agg #[.int .i64 y0, .int .i64 y1, .int .u32 y2, .bool y3, .int .u32 y4, .int .i64 y5, .int .i64 y6, .int .i64 y7, .int .i64 y8, .int .i64 y9, .bool y10, .int .i64 y11, .int .u32 y12, .int .u32 y13, .bool y14, .bool y15, .int .i64 y16, .bool y17])).run Tryz.prog w = .ok (x0 == y0 && (x1 == y1 && (x2 == y2 && (x3 == y3 && (x4 == y4 && (x5 == y5 && ((x6 == y6 && (x7 == y7 && (x8 == y8 && (x9 == y9 && ((x10 == y10 && (x11 == y11 && ((x12 == y12 && (x13 == y13)) && (x14 == y14 && (x15 == y15 && (x16 == y16 && (x17 == y17))))))))))))))))))) w := by
  refine seq_of Tryz.underlying33 (by kernel_rfl) ?_
  refine seq_more (by rfl) (by go_simp; rfl) (by go_simp; rfl) (by go_simp) ?_
  refine seq_more (by rfl) (by go_simp; rfl) (by go_simp; rfl) (by go_simp) ?_
  refine seq_more (by rfl) (by go_simp; rfl) (by go_simp; rfl) (by go_simp) ?_
  refine seq_more (by rfl) (by go_simp; rfl) (by go_simp; rfl) (by go_simp) ?_
  refine seq_more (by rfl) (by go_simp; rfl) (by go_simp; rfl) (by go_simp) ?_
  refine seq_more (by rfl) (by go_simp; rfl) (by go_simp; rfl) (by go_simp) ?_
  exact seq_one (by rfl) (by go_simp) (by go_simp) (seq31 (d + 0) w _ _ _ _ _ _ _ _ _ _ _ _ _ _ _ _ _ _ _ _ _ _ _ _)
end Go.Proofs.YtmjojlacpgdomaaGreatDoor
