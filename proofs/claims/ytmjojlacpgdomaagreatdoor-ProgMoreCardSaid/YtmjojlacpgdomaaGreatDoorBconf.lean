import Derived.Test.YtmjojlacpgdomaaGreatDoorAregion
import Derived.Test.YtmjojlacpgdomaaGreatDoorAshow1
import Derived.Test.YtmjojlacpgdomaaGreatDoorAconf2
import Derived.Test.YtmjojlacpgdomaaGreatDoorBlaw
import Derived.Lib.SlicesS
/-! Plain laws: a command's text is read as it. -/
namespace Go.Proofs.YtmjojlacpgdomaaGreatDoor
set_option linter.unusedSimpArgs false
set_option linter.unusedVariables false
open Go
/-- A command's words. -/
def cmdWords (c : Cmd) : List (List UInt8) :=
  kindWords.getD c.k.toNat [] :: ((if c.k = 7 then [] else [Lib.itoa c.ix]) ++
    (if c.k = 1 then [Lib.itoa c.reg.rw, hexN 8 c.reg.rf.toNat, hexN 8 c.reg.rt.toNat, rightsW c.reg.rd c.reg.wr, Lib.itoa c.reg.rk] ++ (if c.reg.lk then [[108, 111, 99, 107, 101, 100]] else [])
     else if c.k = 3 ∨ c.k = 5 then [Lib.itoa c.wo] else if c.k = 6 then [lineW c.li] else []))
/-- A command's text. -/
def cmdText (c : Cmd) : List UInt8 := Lib.join (cmdWords c) [32]
def kindOf (s : ByteArray) : Int := Lib.idxOfS (kindWords.map mk) s
/-- What words say, and whether all went well. -/
def scanCmd (ws : List ByteArray) : Cmd × Bool :=
  if kindOf (hd ws) = 7 then (⟨7, 0, 0, 0, .zero⟩, !isNil ws)
  else if kindOf (hd ws) = 1 then (⟨1, num16 (hd ws.tail), 0, 0, regOf ws.tail.tail⟩, regOk (!isNil ws && !isNil ws.tail && puOk (dec16 (hd ws.tail))) ws.tail.tail)
  else if kindOf (hd ws) = 3 ∨ kindOf (hd ws) = 5 then (⟨kindOf (hd ws), num16 (hd ws.tail), num16 (hd ws.tail.tail), 0, .zero⟩, !isNil ws && !isNil ws.tail && puOk (dec16 (hd ws.tail)) && !isNil ws.tail.tail && puOk (dec16 (hd ws.tail.tail)))
  else if kindOf (hd ws) = 6 then (⟨6, num16 (hd ws.tail), 0, lineV ws.tail.tail, .zero⟩, !isNil ws && !isNil ws.tail && puOk (dec16 (hd ws.tail)) && lineOk ws.tail.tail)
  else (⟨kindOf (hd ws), num16 (hd ws.tail), 0, 0, .zero⟩, !isNil ws && !isNil ws.tail && puOk (dec16 (hd ws.tail)))
/-- The command of a text. -/
def readCmd (s : ByteArray) : Option Cmd :=
  if (scanCmd (cut 32 s)).2 && (cmdRight (scanCmd (cut 32 s)).1 && decide (mk (cmdText (scanCmd (cut 32 s)).1) = s)) then some (scanCmd (cut 32 s)).1 else none
/-- Its addresses are of 32 bits. -/
def Cmd.Fit (c : Cmd) : Prop := (0 ≤ c.reg.rf ∧ c.reg.rf < 4294967296) ∧ 0 ≤ c.reg.rt ∧ c.reg.rt < 4294967296
def Clean (l : List UInt8) : Prop := ∀ c ∈ l, c ≠ 32 ∧ c ≠ 10
theorem itoa_chars (n : Int) (h : 0 ≤ n) : ∀ c ∈ Lib.itoa n, 48 ≤ c.toNat ∧ c.toNat ≤ 57 := by rw [itoa_nat n h]; exact dec_chars _
theorem clean_itoa (n : Int) (h : 0 ≤ n) : Clean (Lib.itoa n) := fun c hc => by
  have := itoa_chars n h c hc
  constructor <;> (rintro rfl; simp at this)
theorem clean_hex (f v : Nat) : Clean (hexN f v) := fun c hc => by
  have := hex_chars f v c hc
  constructor <;> (rintro rfl; simp at this)
theorem clean_line (n : Int) : Clean (lineW n) := by
  unfold lineW
  split
  · intro c hc; simp at hc; subst hc; decide
  · exact clean_itoa n (by omega)
theorem clean_rights (a b : Bool) : Clean (rightsW a b) := by
  cases a <;> cases b <;> (intro c hc; simp [rightsW] at hc; first | (rcases hc with rfl | rfl <;> decide) | (subst hc; decide))
theorem clean_kind (k : Nat) : Clean (kindWords.getD k []) := by
  have h : ∀ k, k < 8 → ∀ c ∈ kindWords.getD k [], c ≠ 32 ∧ c ≠ 10 := by decide
  by_cases hk : k < 8
  · exact h k hk
  · intro c hc
    rw [List.getD_eq_getElem?_getD, List.getElem?_eq_none (by simpa [kindWords] using hk)] at hc
    simp at hc
theorem num16_itoa (n : Int) (h0 : 0 ≤ n) (h1 : n ≤ 65535) : (num16 (mk (Lib.itoa n)) : Int) = n := by
  rw [itoa_nat n h0, num16, dec16, mk_data, parse_itoa 16 n.toNat (by decide) (by omega)]
  simp only [puV]; omega
theorem dec16_itoa (n : Int) (h0 : 0 ≤ n) (h1 : n ≤ 65535) : puOk (dec16 (mk (Lib.itoa n))) = true := by
  rw [itoa_nat n h0, dec16, mk_data, parse_itoa 16 n.toNat (by decide) (by omega)]; rfl
theorem adr32_hex (n : Int) (h0 : 0 ≤ n) (h1 : n < 4294967296) : (adr32 (mk (hexN 8 n.toNat)) : Int) = n := by
  rw [adr32, hex32, mk_data, hex_again 4294967295 n.toNat (by omega) (by omega)]
  simp only [puV]; omega
theorem hex32_hex (n : Int) (h0 : 0 ≤ n) (h1 : n < 4294967296) : puOk (hex32 (mk (hexN 8 n.toNat))) = true := by
  rw [hex32, mk_data, hex_again 4294967295 n.toNat (by omega) (by omega)]; rfl
theorem has_r (a b : Bool) : has 114 (mk (rightsW a b)) = a := by cases a <;> cases b <;> kernel_rfl
theorem has_w (a b : Bool) : has 119 (mk (rightsW a b)) = b := by cases a <;> cases b <;> kernel_rfl
theorem itoa_nedash (n : Int) (h : 0 ≤ n) : ¬ mk (Lib.itoa n) = ⟨#[45]⟩ := fun e => by
  have h1 := itoa_chars n h
  rw [show (ByteArray.mk #[45]) = mk [45] from rfl] at e
  rw [mk_inj e] at h1
  simp at h1
theorem lineV_line (n : Int) (r : List ByteArray) (h0 : -1 ≤ n) (h1 : n ≤ 65535) : lineV (mk (lineW n) :: r) = n ∧ lineOk (mk (lineW n) :: r) = true := by
  by_cases hn : n < 0
  · obtain rfl : n = -1 := by omega
    exact ⟨rfl, rfl⟩
  · have hd0 : isDash (mk (lineW n) :: r) = false := by
      simp only [isDash, lineW, if_neg hn]
      exact decide_eq_false (itoa_nedash n (by omega))
    unfold lineV lineOk
    rw [hd0]
    simp only [lineW, if_neg hn, hd, List.headD_cons, isNil, dec16_itoa n (by omega) h1, num16_itoa n (by omega) h1]
    simp
theorem words_ne (c : Cmd) : cmdWords c ≠ [] := by simp [cmdWords]
/-- What is right, Kind by Kind. -/
theorem right_parts {c : Cmd} (h : cmdRight c = true) :
    (c.k = 1 ∧ c.wo = 0 ∧ c.li = 0 ∧ c.reg.on = true ∧ 0 ≤ c.ix ∧ c.ix ≤ 999 ∧ 0 ≤ c.reg.rw ∧ c.reg.rw ≤ 99 ∧ 0 ≤ c.reg.rk ∧ c.reg.rk ≤ 999) ∨
    ((c.k = 2 ∨ c.k = 4) ∧ c.wo = 0 ∧ c.li = 0 ∧ c.reg = .zero ∧ 0 ≤ c.ix ∧ c.ix ≤ 999) ∨
    ((c.k = 3 ∨ c.k = 5) ∧ c.li = 0 ∧ c.reg = .zero ∧ 0 ≤ c.ix ∧ c.ix ≤ 999 ∧ 0 ≤ c.wo ∧ c.wo ≤ 99) ∨
    (c.k = 6 ∧ c.wo = 0 ∧ c.reg = .zero ∧ 0 ≤ c.ix ∧ c.ix ≤ 999 ∧ -1 ≤ c.li ∧ c.li ≤ 99) ∨
    (c.k = 7 ∧ c.ix = 0 ∧ c.wo = 0 ∧ c.li = 0 ∧ c.reg = .zero) := by
  obtain ⟨k, ix, wo, li, ⟨on, rw, rf, rt, rd, wr, rk, lk⟩⟩ := c
  simp only [cmdRight, Bool.and_eq_true, decide_eq_true_eq] at h
  obtain ⟨h1, h7, he, hx, hr⟩ := h
  simp only [inB, Bool.and_eq_true, decide_eq_true_eq] at hx hr
  rcases (show k = 1 ∨ k = 2 ∨ k = 3 ∨ k = 4 ∨ k = 5 ∨ k = 6 ∨ k = 7 by omega) with rfl | rfl | rfl | rfl | rfl | rfl | rfl
  all_goals
    simp [cmdNamed, eqCmd, eqReg, Reg.zero] at he hr ⊢
    simp only [he, hx, hr, and_self, true_and, and_true]
    try omega
theorem scan_words (c : Cmd) (h : cmdRight c = true) (hf : c.Fit) : scanCmd ((cmdWords c).map mk) = (c, true) := by
  have hp := right_parts h
  obtain ⟨k, ix, wo, li, ⟨on, rw, rf, rt, rd, wr, rk, lk⟩⟩ := c
  obtain ⟨⟨f0, f1⟩, t0, t1⟩ := hf
  simp only at hp f0 f1 t0 t1
  have k1 : kindOf (mk [114, 101, 103, 105, 111, 110]) = 1 := by kernel_rfl
  have k2 : kindOf (mk [99, 108, 101, 97, 114]) = 2 := by kernel_rfl
  have k3 : kindOf (mk [103, 105, 118, 101]) = 3 := by kernel_rfl
  have k4 : kindOf (mk [116, 97, 107, 101]) = 4 := by kernel_rfl
  have k5 : kindOf (mk [109, 111, 118, 101]) = 5 := by kernel_rfl
  have k6 : kindOf (mk [114, 111, 117, 116, 101]) = 6 := by kernel_rfl
  have k7 : kindOf (mk [108, 111, 99, 107]) = 7 := by kernel_rfl
  rcases hp with ⟨rfl, rfl, rfl, rfl, a, b, d, e, f, g⟩ | ⟨hk, rfl, rfl, hz, a, b⟩ | ⟨hk, rfl, hz, a, b, d, e⟩ | ⟨rfl, rfl, hz, a, b, d, e⟩ | ⟨rfl, rfl, rfl, rfl, hz⟩
  · have i1 := num16_itoa ix a (by omega)
    have i2 := dec16_itoa ix a (by omega)
    have w1 := num16_itoa rw d (by omega)
    have w2 := dec16_itoa rw d (by omega)
    have r1 := num16_itoa rk f (by omega)
    have r2 := dec16_itoa rk f (by omega)
    have p1 := adr32_hex rf f0 f1
    have p2 := hex32_hex rf f0 f1
    have q1 := adr32_hex rt t0 t1
    have q2 := hex32_hex rt t0 t1
    cases lk <;> simp [cmdWords, kindWords, scanCmd, hd, k1, regOf, regOk, isNil, i1, i2, w1, w2, r1, r2, p1, p2, q1, q2, has_r, has_w]
  · have i1 := num16_itoa ix a (by omega)
    have i2 := dec16_itoa ix a (by omega)
    rcases hk with rfl | rfl <;> simp [cmdWords, kindWords, scanCmd, hd, k2, k4, isNil, i1, i2, hz, Reg.zero]
  · have i1 := num16_itoa ix a (by omega)
    have i2 := dec16_itoa ix a (by omega)
    have w1 := num16_itoa wo d (by omega)
    have w2 := dec16_itoa wo d (by omega)
    rcases hk with rfl | rfl <;> simp [cmdWords, kindWords, scanCmd, hd, k3, k5, isNil, i1, i2, w1, w2, hz, Reg.zero]
  · have i1 := num16_itoa ix a (by omega)
    have i2 := dec16_itoa ix a (by omega)
    have l1 := lineV_line li [] d (by omega)
    simp [cmdWords, kindWords, scanCmd, hd, k6, isNil, i1, i2, l1.1, l1.2, hz, Reg.zero]
  · simp [cmdWords, kindWords, scanCmd, hd, k7, isNil, hz, Reg.zero]
theorem words_clean (c : Cmd) (h : cmdRight c = true) : ∀ x ∈ cmdWords c, Clean x := by
  have hp := right_parts h
  obtain ⟨k, ix, wo, li, ⟨on, rw, rf, rt, rd, wr, rk, lk⟩⟩ := c
  simp only at hp
  have hk := clean_kind k.toNat
  intro x hx
  unfold cmdWords at hx
  rcases List.mem_cons.1 hx with rfl | hx
  · exact hk
  have hlock : Clean [108, 111, 99, 107, 101, 100] := by intro c hc; revert c; decide
  rcases hp with ⟨rfl, rfl, rfl, rfl, a, b, d, e, f, g⟩ | ⟨hk, rfl, rfl, hz, a, b⟩ | ⟨hk, rfl, hz, a, b, d, e⟩ | ⟨rfl, rfl, hz, a, b, d, e⟩ | ⟨rfl, rfl, rfl, rfl, hz⟩
  · have := clean_itoa ix a
    have := clean_itoa rw d
    have := clean_itoa rk f
    have := clean_hex 8 rf.toNat
    have := clean_hex 8 rt.toNat
    have := clean_rights rd wr
    cases lk <;> simp at hx <;> rcases hx with rfl | rfl | rfl | rfl | rfl | rfl | hx <;> first | assumption | (subst hx; assumption)
  · have := clean_itoa ix a
    rcases hk with rfl | rfl <;> simp at hx <;> subst hx <;> assumption
  · have := clean_itoa ix a
    have := clean_itoa wo d
    rcases hk with rfl | rfl <;> simp at hx <;> rcases hx with rfl | rfl <;> assumption
  · have := clean_itoa ix a
    have := clean_line li
    simp at hx
    rcases hx with rfl | rfl <;> assumption
  · simp at hx
/-- A right command's text is read as it. -/
theorem readCmd_text (c : Cmd) (h : cmdRight c = true) (hf : c.Fit) : readCmd (mk (cmdText c)) = some c := by
  have hc : cut 32 (mk (cmdText c)) = (cmdWords c).map mk := by
    unfold cut cmdText
    rw [mk_data, parts_join 32 _ (words_ne c) (fun x hx hm => ((words_clean c h x hx) 32 hm).1 rfl)]
  unfold readCmd
  rw [hc, scan_words c h hf]
  simp [h]
end Go.Proofs.YtmjojlacpgdomaaGreatDoor
