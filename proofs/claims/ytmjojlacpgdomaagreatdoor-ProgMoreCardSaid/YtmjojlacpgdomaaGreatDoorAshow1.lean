import Derived.Test.YtmjojlacpgdomaaGreatDoorAhex
import Derived.Test.YtmjojlacpgdomaaGreatDoorAread
import Derived.Test.YtmjojlacpgdomaaGreatDoorAline
/-! What (conf).Show calls: kinds, rights, line, hex. -/
namespace Go.Proofs.YtmjojlacpgdomaaGreatDoor
set_option linter.unusedSimpArgs false
set_option linter.unusedVariables false
open Go Go.RowKit
def kindWords : List (List UInt8) := [[], [114, 101, 103, 105, 111, 110], [99, 108, 101, 97, 114], [103, 105, 118, 101], [116, 97, 107, 101], [109, 111, 118, 101], [114, 111, 117, 116, 101], [108, 111, 99, 107]]
set_option maxRecDepth 100000 in
set_option maxHeartbeats 1000000 in
theorem kinds_any (w : World) : Calls Tryz.prog 130 #[] w fun e w' => e = .returned (.slice (some ⟨w.heap.size, 0, none⟩) 8 8) ∧ w' = w.alloc (.cells (kindWords.map str).toArray 9) := by
  go_enter Tryz.func130, Tryz.ntmps130
  go_wp2
  go_ret
  exact ⟨rfl, rfl⟩
def rightsW (rd wr : Bool) : List UInt8 := if rd then (if wr then [114, 119] else [114]) else if wr then [119] else [45]
set_option maxRecDepth 100000 in
set_option maxHeartbeats 1000000 in
theorem rights_truetrue (on lk : Bool) (rw rf rt rk : Int) (w : World) : Calls Tryz.prog 132 #[.agg #[.bool on, .int .i64 rw, .int .u32 rf, .int .u32 rt, .bool true, .bool true, .int .i64 rk, .bool lk]] w fun e w' => e = .returned (str (rightsW true true)) ∧ Below w.heap.size w w' := by
  have h1 : ((⟨#[]⟩ : ByteArray) ++ ⟨#[114]⟩) = ⟨#[114]⟩ := by kernel_rfl
  have h2 : ((⟨#[]⟩ : ByteArray) ++ ⟨#[119]⟩) = ⟨#[119]⟩ := by kernel_rfl
  have h3 : ((⟨#[114]⟩ : ByteArray) ++ ⟨#[119]⟩) = ⟨#[114, 119]⟩ := by kernel_rfl
  have h4 : (⟨#[114]⟩ : ByteArray).toList.isEmpty = false := by kernel_rfl
  have h5 : (⟨#[119]⟩ : ByteArray).toList.isEmpty = false := by kernel_rfl
  have h6 : (⟨#[114, 119]⟩ : ByteArray).toList.isEmpty = false := by kernel_rfl
  have h7 : (⟨#[]⟩ : ByteArray).toList.isEmpty = true := by kernel_rfl
  go_enter Tryz.func132, Tryz.ntmps132
  go_wp2
  go_ret
  exact ⟨rfl, (Below.refl _ _).alloc (Nat.le_refl _) _⟩
set_option maxRecDepth 100000 in
set_option maxHeartbeats 1000000 in
theorem rights_truefalse (on lk : Bool) (rw rf rt rk : Int) (w : World) : Calls Tryz.prog 132 #[.agg #[.bool on, .int .i64 rw, .int .u32 rf, .int .u32 rt, .bool true, .bool false, .int .i64 rk, .bool lk]] w fun e w' => e = .returned (str (rightsW true false)) ∧ Below w.heap.size w w' := by
  have h1 : ((⟨#[]⟩ : ByteArray) ++ ⟨#[114]⟩) = ⟨#[114]⟩ := by kernel_rfl
  have h2 : ((⟨#[]⟩ : ByteArray) ++ ⟨#[119]⟩) = ⟨#[119]⟩ := by kernel_rfl
  have h3 : ((⟨#[114]⟩ : ByteArray) ++ ⟨#[119]⟩) = ⟨#[114, 119]⟩ := by kernel_rfl
  have h4 : (⟨#[114]⟩ : ByteArray).toList.isEmpty = false := by kernel_rfl
  have h5 : (⟨#[119]⟩ : ByteArray).toList.isEmpty = false := by kernel_rfl
  have h6 : (⟨#[114, 119]⟩ : ByteArray).toList.isEmpty = false := by kernel_rfl
  have h7 : (⟨#[]⟩ : ByteArray).toList.isEmpty = true := by kernel_rfl
  go_enter Tryz.func132, Tryz.ntmps132
  go_wp2
  go_ret
  exact ⟨rfl, (Below.refl _ _).alloc (Nat.le_refl _) _⟩
set_option maxRecDepth 100000 in
set_option maxHeartbeats 1000000 in
theorem rights_falsetrue (on lk : Bool) (rw rf rt rk : Int) (w : World) : Calls Tryz.prog 132 #[.agg #[.bool on, .int .i64 rw, .int .u32 rf, .int .u32 rt, .bool false, .bool true, .int .i64 rk, .bool lk]] w fun e w' => e = .returned (str (rightsW false true)) ∧ Below w.heap.size w w' := by
  have h1 : ((⟨#[]⟩ : ByteArray) ++ ⟨#[114]⟩) = ⟨#[114]⟩ := by kernel_rfl
  have h2 : ((⟨#[]⟩ : ByteArray) ++ ⟨#[119]⟩) = ⟨#[119]⟩ := by kernel_rfl
  have h3 : ((⟨#[114]⟩ : ByteArray) ++ ⟨#[119]⟩) = ⟨#[114, 119]⟩ := by kernel_rfl
  have h4 : (⟨#[114]⟩ : ByteArray).toList.isEmpty = false := by kernel_rfl
  have h5 : (⟨#[119]⟩ : ByteArray).toList.isEmpty = false := by kernel_rfl
  have h6 : (⟨#[114, 119]⟩ : ByteArray).toList.isEmpty = false := by kernel_rfl
  have h7 : (⟨#[]⟩ : ByteArray).toList.isEmpty = true := by kernel_rfl
  go_enter Tryz.func132, Tryz.ntmps132
  go_wp2
  go_ret
  exact ⟨rfl, (Below.refl _ _).alloc (Nat.le_refl _) _⟩
set_option maxRecDepth 100000 in
set_option maxHeartbeats 1000000 in
theorem rights_falsefalse (on lk : Bool) (rw rf rt rk : Int) (w : World) : Calls Tryz.prog 132 #[.agg #[.bool on, .int .i64 rw, .int .u32 rf, .int .u32 rt, .bool false, .bool false, .int .i64 rk, .bool lk]] w fun e w' => e = .returned (str (rightsW false false)) ∧ Below w.heap.size w w' := by
  have h1 : ((⟨#[]⟩ : ByteArray) ++ ⟨#[114]⟩) = ⟨#[114]⟩ := by kernel_rfl
  have h2 : ((⟨#[]⟩ : ByteArray) ++ ⟨#[119]⟩) = ⟨#[119]⟩ := by kernel_rfl
  have h3 : ((⟨#[114]⟩ : ByteArray) ++ ⟨#[119]⟩) = ⟨#[114, 119]⟩ := by kernel_rfl
  have h4 : (⟨#[114]⟩ : ByteArray).toList.isEmpty = false := by kernel_rfl
  have h5 : (⟨#[119]⟩ : ByteArray).toList.isEmpty = false := by kernel_rfl
  have h6 : (⟨#[114, 119]⟩ : ByteArray).toList.isEmpty = false := by kernel_rfl
  have h7 : (⟨#[]⟩ : ByteArray).toList.isEmpty = true := by kernel_rfl
  go_enter Tryz.func132, Tryz.ntmps132
  go_wp2
  go_ret
  exact ⟨rfl, (Below.refl _ _).alloc (Nat.le_refl _) _⟩
theorem rights_any (on rd wr lk : Bool) (rw rf rt rk : Int) (w : World) : Calls Tryz.prog 132 #[.agg #[.bool on, .int .i64 rw, .int .u32 rf, .int .u32 rt, .bool rd, .bool wr, .int .i64 rk, .bool lk]] w fun e w' => e = .returned (str (rightsW rd wr)) ∧ Below w.heap.size w w' := by
  cases rd <;> cases wr
  · exact rights_falsefalse on lk rw rf rt rk w
  · exact rights_falsetrue on lk rw rf rt rk w
  · exact rights_truefalse on lk rw rf rt rk w
  · exact rights_truetrue on lk rw rf rt rk w
def lineW (n : Int) : List UInt8 := if n < 0 then [45] else Lib.itoa n
set_option maxRecDepth 100000 in
set_option maxHeartbeats 1000000 in
theorem lineW_neg (n : Int) (hn : n < 0) (w : World) : Calls Tryz.prog 133 #[.int .i64 n] w fun e w' => e = .returned (.string ⟨#[45]⟩) ∧ w = w' := by
  go_enter Tryz.func133, Tryz.ntmps133
  go_wp2
  go_ret
  exact ⟨rfl, rfl⟩
set_option maxRecDepth 100000 in
set_option maxHeartbeats 1000000 in
theorem lineW_pos (n : Int) (h0 : 0 ≤ n) (h1 : n ≤ 9223372036854775807) (w : World) (hG : Glob w) : Calls Tryz.prog 133 #[.int .i64 n] w fun e w' => e = .returned (.string ⟨(Lib.itoa n).toArray⟩) ∧ Below w.heap.size w w' := by
  have hc := itoa_any n (by omega) h1 w hG
  have hn : ¬ n < 0 := by omega
  go_enter Tryz.func133, Tryz.ntmps133
  go_wp2_with (go_at_call 59; (with_reducible refine hc.mono ?_); rintro e w1 ⟨rfl, hb⟩)
  go_ret
  exact ⟨rfl, hb⟩
theorem lineW_any (n : Int) (h1 : n ≤ 9223372036854775807) (w : World) (hG : Glob w) : Calls Tryz.prog 133 #[.int .i64 n] w fun e w' => e = .returned (str (lineW n)) ∧ Below w.heap.size w w' := by
  by_cases hn : n < 0
  · refine (lineW_neg n hn w).mono ?_
    rintro e w' ⟨rfl, rfl⟩
    exact ⟨by simp [lineW, hn, str], Below.refl _ _⟩
  · refine (lineW_pos n (by omega) h1 w hG).mono ?_
    rintro e w' ⟨rfl, hb⟩
    exact ⟨by simp [lineW, hn, str], hb⟩
end Go.Proofs.YtmjojlacpgdomaaGreatDoor
