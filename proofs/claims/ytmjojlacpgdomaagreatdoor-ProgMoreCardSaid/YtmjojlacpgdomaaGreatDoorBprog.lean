import Derived.Test.YtmjojlacpgdomaaGreatDoorBconf
/-! Plain laws: an instruction's text is read as it; a program's text is read as it. -/
namespace Go.Proofs.YtmjojlacpgdomaaGreatDoor
set_option linter.unusedSimpArgs false
set_option linter.unusedVariables false
open Go
def opWords : List (List UInt8) := [[], [108, 111, 97, 100], [115, 116, 111, 114, 101], [112, 117, 116], [119, 97, 105, 116], [98, 114, 97, 110, 99, 104], [106, 117, 109, 112], [105, 100, 108, 101], [109, 97, 115, 107], [99, 111, 110, 102], [104, 97, 108, 116]]
def sizeOk (n : Int) : Bool := n == 1 || (n == 2 || n == 4)
def toOk (n : Int) : Bool := decide (0 ≤ n) && decide (n ≤ 64)
/-- Whether an instruction is right. -/
def insRight (x : Ins) : Bool :=
  if x.op = 1 ∨ x.op = 3 then sizeOk x.size && insNone 0 0 false x.data x.to x.conf
  else if x.op = 2 then sizeOk x.size && insNone 0 0 false 0 x.to x.conf
  else if x.op = 4 ∨ x.op = 10 then insNone x.size x.addr x.idx x.data x.to x.conf
  else if x.op = 5 then toOk x.to && insNone x.size x.addr x.idx 0 0 x.conf
  else if x.op = 6 then toOk x.to && insNone x.size x.addr x.idx x.data 0 x.conf
  else if x.op = 7 then decide (x.data ≤ 9999) && insNone x.size x.addr x.idx 0 x.to x.conf
  else if x.op = 8 then decide (x.data ≤ 255) && insNone x.size x.addr x.idx 0 x.to x.conf
  else if x.op = 9 then cmdRight x.conf && insNone x.size x.addr x.idx x.data x.to .zero
  else false
/-- An instruction's words. -/
def insWords (x : Ins) : List (List UInt8) :=
  opWords.getD x.op.toNat [] :: ((if 0 < x.size then [Lib.itoa x.size, hexN 8 x.addr.toNat] else []) ++ ((if x.idx then [[43]] else []) ++
    ((if x.op = 2 ∨ x.op = 5 ∨ x.op = 8 then [hexN 8 x.data.toNat] else if x.op = 7 then [Lib.itoa x.data] else if x.op = 9 then [cmdText x.conf] else []) ++
      (if x.op = 5 ∨ x.op = 6 then [Lib.itoa x.to] else []))))
def insText (x : Ins) : List UInt8 := Lib.join (insWords x) [32]
def opOf (s : ByteArray) : Int := if s = mk [] then 0 else max 0 (Lib.idxOfS (opWords.map mk) s)
def dec32 (s : ByteArray) : Lib.NumEnd Nat := Lib.parseUintB 32 s.data.toList
def num32 (s : ByteArray) : Nat := puV 4294967295 (dec32 s)
/-- Is it a '+'? -/
def isPlus (ws : List ByteArray) : Bool := match ws with | [] => false | x :: _ => decide (x = ⟨#[43]⟩)
def opIf (b : Bool) (op : Int) : Int := if b then op else 0
/-- The instruction that words say. -/
def scanIns (ws : List ByteArray) : Ins :=
  let op := opOf (hd ws)
  let r := ws.tail
  if op = 1 ∨ op = 2 ∨ op = 3 then
    let r2 := r.tail.tail
    let op1 := opIf (puOk (dec32 (hd r)) && puOk (hex32 (hd r.tail))) op
    if op1 = 2 then
      let r3 := if isPlus r2 then r2.tail else r2
      ⟨opIf (puOk (hex32 (hd r3))) 2, num32 (hd r), adr32 (hd r.tail), isPlus r2, adr32 (hd r3), 0, .zero⟩
    else ⟨op1, num32 (hd r), adr32 (hd r.tail), isPlus r2, 0, 0, .zero⟩
  else if op = 5 then
    if puOk (hex32 (hd r)) then ⟨opIf (puOk (dec32 (hd r.tail))) 5, 0, 0, false, adr32 (hd r), num32 (hd r.tail), .zero⟩
    else ⟨0, 0, 0, false, adr32 (hd r), 0, .zero⟩
  else if op = 8 then ⟨opIf (puOk (hex32 (hd r))) 8, 0, 0, false, adr32 (hd r), 0, .zero⟩
  else if op = 6 then ⟨opIf (puOk (dec32 (hd r))) 6, 0, 0, false, 0, num32 (hd r), .zero⟩
  else if op = 7 then ⟨opIf (puOk (dec32 (hd r))) 7, 0, 0, false, num32 (hd r), 0, .zero⟩
  else if op = 9 then ⟨9, 0, 0, false, 0, 0, (readCmd (mk (Lib.join (r.map (·.data.toList)) [32]))).getD .zero⟩
  else ⟨op, 0, 0, false, 0, 0, .zero⟩
/-- The instruction of a line. -/
def readIns (s : ByteArray) : Option Ins :=
  if insRight (scanIns (cut 32 s)) && decide (mk (insText (scanIns (cut 32 s))) = s) then some (scanIns (cut 32 s)) else none
def Ins.Fit (x : Ins) : Prop := (0 ≤ x.addr ∧ x.addr < 4294967296) ∧ (0 ≤ x.data ∧ x.data < 4294967296) ∧ x.conf.Fit
theorem num32_itoa (n : Int) (h0 : 0 ≤ n) (h1 : n ≤ 65535) : (num32 (mk (Lib.itoa n)) : Int) = n := by
  rw [itoa_nat n h0, num32, dec32, mk_data, parse_itoa 32 n.toNat (by decide) (by omega)]
  simp only [puV]; omega
theorem dec32_itoa (n : Int) (h0 : 0 ≤ n) (h1 : n ≤ 65535) : puOk (dec32 (mk (Lib.itoa n))) = true := by
  rw [itoa_nat n h0, dec32, mk_data, parse_itoa 32 n.toNat (by decide) (by omega)]; rfl
theorem clean_op (k : Nat) : Clean (opWords.getD k []) := by
  have h : ∀ k, k < 11 → ∀ c ∈ opWords.getD k [], c ≠ 32 ∧ c ≠ 10 := by decide
  by_cases hk : k < 11
  · exact h k hk
  · intro c hc
    rw [List.getD_eq_getElem?_getD, List.getElem?_eq_none (by simpa [opWords] using hk)] at hc
    simp at hc
theorem none_parts {size addr : Int} {idx : Bool} {data tt : Int} {c : Cmd} (h : insNone size addr idx data tt c = true) :
    size = 0 ∧ addr = 0 ∧ idx = false ∧ data = 0 ∧ tt = 0 ∧ c = .zero := by
  obtain ⟨k, ix, wo, li, ⟨on, rw, rf, rt, rd, wr, rk, lk⟩⟩ := c
  simp [insNone, cmdNone, regNone] at h
  simp [Cmd.zero, Reg.zero, h]
theorem ins_parts {x : Ins} (h : insRight x = true) :
    ((x.op = 1 ∨ x.op = 3) ∧ (x.size = 1 ∨ x.size = 2 ∨ x.size = 4) ∧ x.data = 0 ∧ x.to = 0 ∧ x.conf = .zero) ∨
    (x.op = 2 ∧ (x.size = 1 ∨ x.size = 2 ∨ x.size = 4) ∧ x.to = 0 ∧ x.conf = .zero) ∨
    ((x.op = 4 ∨ x.op = 10) ∧ x.size = 0 ∧ x.addr = 0 ∧ x.idx = false ∧ x.data = 0 ∧ x.to = 0 ∧ x.conf = .zero) ∨
    (x.op = 5 ∧ 0 ≤ x.to ∧ x.to ≤ 64 ∧ x.size = 0 ∧ x.addr = 0 ∧ x.idx = false ∧ x.conf = .zero) ∨
    (x.op = 6 ∧ 0 ≤ x.to ∧ x.to ≤ 64 ∧ x.size = 0 ∧ x.addr = 0 ∧ x.idx = false ∧ x.data = 0 ∧ x.conf = .zero) ∨
    (x.op = 7 ∧ x.data ≤ 9999 ∧ x.size = 0 ∧ x.addr = 0 ∧ x.idx = false ∧ x.to = 0 ∧ x.conf = .zero) ∨
    (x.op = 8 ∧ x.data ≤ 255 ∧ x.size = 0 ∧ x.addr = 0 ∧ x.idx = false ∧ x.to = 0 ∧ x.conf = .zero) ∨
    (x.op = 9 ∧ cmdRight x.conf = true ∧ x.size = 0 ∧ x.addr = 0 ∧ x.idx = false ∧ x.data = 0 ∧ x.to = 0) := by
  unfold insRight at h
  split at h
  · rename_i ho; simp only [Bool.and_eq_true] at h; have := none_parts h.2; have hs := h.1; simp [sizeOk] at hs; exact .inl ⟨ho, hs, this.2.2.2⟩
  split at h
  · rename_i ho; simp only [Bool.and_eq_true] at h; have := none_parts h.2; have hs := h.1; simp [sizeOk] at hs; exact .inr (.inl ⟨ho, hs, this.2.2.2.2⟩)
  split at h
  · rename_i ho; have := none_parts h; exact .inr (.inr (.inl ⟨ho, this⟩))
  split at h
  · rename_i ho; simp only [Bool.and_eq_true] at h; have := none_parts h.2; have hs := h.1; simp [toOk] at hs; exact .inr (.inr (.inr (.inl ⟨ho, hs.1, hs.2, this.1, this.2.1, this.2.2.1, this.2.2.2.2.2⟩)))
  split at h
  · rename_i ho; simp only [Bool.and_eq_true] at h; have := none_parts h.2; have hs := h.1; simp [toOk] at hs; exact .inr (.inr (.inr (.inr (.inl ⟨ho, hs.1, hs.2, this.1, this.2.1, this.2.2.1, this.2.2.2.1, this.2.2.2.2.2⟩))))
  split at h
  · rename_i ho; simp only [Bool.and_eq_true] at h; have := none_parts h.2; have hs := h.1; simp at hs; exact .inr (.inr (.inr (.inr (.inr (.inl ⟨ho, hs, this.1, this.2.1, this.2.2.1, this.2.2.2.2.1, this.2.2.2.2.2⟩)))))
  split at h
  · rename_i ho; simp only [Bool.and_eq_true] at h; have := none_parts h.2; have hs := h.1; simp at hs; exact .inr (.inr (.inr (.inr (.inr (.inr (.inl ⟨ho, hs, this.1, this.2.1, this.2.2.1, this.2.2.2.2.1, this.2.2.2.2.2⟩))))))
  split at h
  · rename_i ho; simp only [Bool.and_eq_true] at h; have := none_parts h.2; exact .inr (.inr (.inr (.inr (.inr (.inr (.inr ⟨ho, h.1, this.1, this.2.1, this.2.2.1, this.2.2.2.1, this.2.2.2.2.1⟩))))))
  · cases h
theorem text_cut (x : Ins) (h9 : x.op ≠ 9) (h : ∀ w ∈ insWords x, Clean w) : cut 32 (mk (insText x)) = (insWords x).map mk := by
  unfold cut insText
  rw [mk_data, parts_join 32 _ (by simp [insWords]) (fun y hy hm => (h y hy 32 hm).1 rfl)]
theorem not_plus (v : Nat) : isPlus [mk (hexN 8 v)] = false := by
  refine decide_eq_false fun e => ?_
  have h1 := hex_chars 8 v
  rw [show (ByteArray.mk #[43]) = mk [43] from rfl] at e
  rw [mk_inj e] at h1
  simp at h1
theorem zero_fit : Cmd.zero.Fit := by simp [Cmd.Fit, Cmd.zero, Reg.zero]
theorem ins_clean (x : Ins) (h9 : x.op ≠ 9) (hd : 0 ≤ x.data) (ht : 0 ≤ x.to) : ∀ w ∈ insWords x, Clean w := by
  intro w hw
  have hplus : Clean [43] := by intro c hc; revert c; decide
  unfold insWords at hw
  rcases List.mem_cons.1 hw with rfl | hw
  · exact clean_op _
  rcases List.mem_append.1 hw with hw | hw
  · split at hw
    · simp at hw
      rcases hw with rfl | rfl
      · exact clean_itoa _ (by omega)
      · exact clean_hex _ _
    · simp at hw
  rcases List.mem_append.1 hw with hw | hw
  · split at hw <;> simp at hw
    subst hw; exact hplus
  rcases List.mem_append.1 hw with hw | hw
  · rw [if_neg h9] at hw
    split at hw
    · simp at hw; subst hw; exact clean_hex _ _
    · split at hw <;> simp at hw
      subst hw; exact clean_itoa _ hd
  · split at hw <;> simp at hw
    subst hw; exact clean_itoa _ ht
theorem mem_join (c s : UInt8) : ∀ xs : List (List UInt8), c ∈ Lib.join xs [s] → c = s ∨ ∃ x ∈ xs, c ∈ x
  | [], h => by simp [Lib.join_nil] at h
  | [x], h => by rw [Lib.join_one] at h; exact .inr ⟨x, by simp, h⟩
  | x :: y :: r, h => by
    rw [join_cons2] at h
    rcases List.mem_append.1 h with h | h
    · exact .inr ⟨x, by simp, h⟩
    · rcases List.mem_cons.1 h with h | h
      · exact .inl h
      · rcases mem_join c s (y :: r) h with h | ⟨z, hz, h⟩
        · exact .inl h
        · exact .inr ⟨z, by simp at hz ⊢; right; exact hz, h⟩
theorem conf_words (c : Cmd) : insWords ⟨9, 0, 0, false, 0, 0, c⟩ = [[99, 111, 110, 102], cmdText c] := by simp [insWords, opWords]
/-- A right instruction's text, read word by word, is it. -/
theorem scan_text (x : Ins) (h : insRight x = true) (hf : x.Fit) : scanIns (cut 32 (mk (insText x))) = x := by
  have hp := ins_parts h
  have o1 : opOf (mk [108, 111, 97, 100]) = 1 := by kernel_rfl
  have o2 : opOf (mk [115, 116, 111, 114, 101]) = 2 := by kernel_rfl
  have o3 : opOf (mk [112, 117, 116]) = 3 := by kernel_rfl
  have o4 : opOf (mk [119, 97, 105, 116]) = 4 := by kernel_rfl
  have o5 : opOf (mk [98, 114, 97, 110, 99, 104]) = 5 := by kernel_rfl
  have o6 : opOf (mk [106, 117, 109, 112]) = 6 := by kernel_rfl
  have o7 : opOf (mk [105, 100, 108, 101]) = 7 := by kernel_rfl
  have o8 : opOf (mk [109, 97, 115, 107]) = 8 := by kernel_rfl
  have o9 : opOf (mk [99, 111, 110, 102]) = 9 := by kernel_rfl
  have o10 : opOf (mk [104, 97, 108, 116]) = 10 := by kernel_rfl
  have pl : ∀ r, isPlus (mk [43] :: r) = true := fun r => by simp [isPlus, mk]
  have pn : isPlus [] = false := rfl
  have ce := ins_clean x
  have tc := text_cut x
  obtain ⟨op, size, addr, idx, data, tt, conf⟩ := x
  obtain ⟨⟨a0, a1⟩, ⟨d0, d1⟩, hcf⟩ := hf
  simp only at hp a0 a1 d0 d1 hcf ce tc
  have A1 := adr32_hex addr a0 a1
  have A2 := hex32_hex addr a0 a1
  have D1 := adr32_hex data d0 d1
  have D2 := hex32_hex data d0 d1
  have np := not_plus data.toNat
  rcases hp with ⟨ho, hs, rfl, rfl, rfl⟩ | ⟨rfl, hs, rfl, rfl⟩ | ⟨ho, rfl, rfl, rfl, rfl, rfl, rfl⟩ | ⟨rfl, t0, t1, rfl, rfl, rfl, rfl⟩ | ⟨rfl, t0, t1, rfl, rfl, rfl, rfl, rfl⟩ | ⟨rfl, hd9, rfl, rfl, rfl, rfl, rfl⟩ | ⟨rfl, hd9, rfl, rfl, rfl, rfl, rfl⟩ | ⟨rfl, hr, rfl, rfl, rfl, rfl, rfl⟩
  · have s0 : 0 < size := by omega
    have S1 := num32_itoa size (by omega) (by omega)
    have S2 := dec32_itoa size (by omega) (by omega)
    rw [tc (by omega) (ce (by omega) (by omega) (by omega))]
    rcases ho with rfl | rfl <;> cases idx <;> simp [insWords, opWords, scanIns, hd, o1, o3, s0, S1, S2, A1, A2, pl, pn, opIf]
  · have s0 : 0 < size := by omega
    have S1 := num32_itoa size (by omega) (by omega)
    have S2 := dec32_itoa size (by omega) (by omega)
    rw [tc (by omega) (ce (by omega) (by omega) (by omega))]
    cases idx <;> simp [insWords, opWords, scanIns, hd, o2, s0, S1, S2, A1, A2, D1, D2, pl, np, opIf]
  · rw [tc (by omega) (ce (by omega) (by omega) (by omega))]
    rcases ho with rfl | rfl <;> simp [insWords, opWords, scanIns, hd, o4, o10]
  · have S1 := num32_itoa tt (by omega) (by omega)
    have S2 := dec32_itoa tt (by omega) (by omega)
    rw [tc (by omega) (ce (by omega) (by omega) (by omega))]
    simp [insWords, opWords, scanIns, hd, o5, S1, S2, D1, D2, opIf]
  · have S1 := num32_itoa tt (by omega) (by omega)
    have S2 := dec32_itoa tt (by omega) (by omega)
    rw [tc (by omega) (ce (by omega) (by omega) (by omega))]
    simp [insWords, opWords, scanIns, hd, o6, S1, S2, opIf]
  · have S1 := num32_itoa data (by omega) (by omega)
    have S2 := dec32_itoa data (by omega) (by omega)
    rw [tc (by omega) (ce (by omega) (by omega) (by omega))]
    simp [insWords, opWords, scanIns, hd, o7, S1, S2, opIf]
  · rw [tc (by omega) (ce (by omega) (by omega) (by omega))]
    simp [insWords, opWords, scanIns, hd, o8, D1, D2, opIf]
  · have hcut : cut 32 (mk (insText ⟨9, 0, 0, false, 0, 0, conf⟩)) = mk [99, 111, 110, 102] :: (cmdWords conf).map mk := by
      unfold cut insText
      rw [mk_data, conf_words, join_cons2, Lib.join_one, parts_append 32 _ _ (by decide)]
      unfold cmdText
      rw [parts_join 32 _ (words_ne conf) (fun x hx hm => ((words_clean conf hr x hx) 32 hm).1 rfl)]
      rfl
    have hj : mk (Lib.join (((cmdWords conf).map mk).map (·.data.toList)) [32]) = mk (cmdText conf) := by
      rw [List.map_map]
      have : ((fun x : ByteArray => x.data.toList) ∘ mk) = id := by funext l; exact mk_data l
      rw [this, List.map_id]
      rfl
    rw [hcut]
    simp only [scanIns, hd, List.headD_cons, List.tail_cons, o9, hj, readCmd_text conf hr hcf]
    simp
theorem text_line (x : Ins) (h : insRight x = true) (hf : x.Fit) : (10 : UInt8) ∉ insText x := by
  intro hm
  have hp := ins_parts h
  rcases mem_join 10 32 _ hm with e | ⟨w, hw, hm⟩
  · cases e
  · by_cases h9 : x.op = 9
    · have hz : x = ⟨9, 0, 0, false, 0, 0, x.conf⟩ ∧ cmdRight x.conf = true := by
        obtain ⟨op, size, addr, idx, data, tt, conf⟩ := x
        simp only at hp h9
        subst h9
        simp at hp
        obtain ⟨hr, rfl, rfl, rfl, rfl, rfl⟩ := hp
        exact ⟨rfl, hr⟩
      rw [hz.1, conf_words] at hw
      simp at hw
      rcases hw with rfl | rfl
      · revert hm; decide
      · rcases mem_join 10 32 _ hm with e | ⟨v, hv, hm⟩
        · cases e
        · exact (words_clean x.conf hz.2 v hv 10 hm).2 rfl
    · have ht : 0 ≤ x.to := by rcases hp with h | h | h | h | h | h | h | h <;> omega
      exact (ins_clean x h9 hf.2.1.1 ht w hw 10 hm).2 rfl
theorem readIns_text (x : Ins) (h : insRight x = true) (hf : x.Fit) : readIns (mk (insText x)) = some x := by
  unfold readIns
  rw [scan_text x h hf, h]
  simp
/-! Programs. -/
def progRight (l : List Ins) : Bool := decide (l.length ≤ 64) && l.all fun x => insRight x && decide (x.to ≤ l.length)
def progText (l : List Ins) : List UInt8 := Lib.join (l.map insText) [10]
/-- The instructions of the lines up to the first that is none. -/
def good : List ByteArray → List Ins
  | [] => []
  | s :: r => match readIns s with
    | some x => x :: good r
    | none => []
def farIdx (l : List Ins) : Nat := l.findIdx fun x => decide ((l.length : Int) < x.to)
/-- The program of a text, the line, the error. -/
def readProg (s : ByteArray) : List Ins × Nat × Nat :=
  if s.size = 0 then ([], 0, 0)
  else if (good (cut 10 s)).length < (cut 10 s).length then ([], (good (cut 10 s)).length + 1, 8)
  else if 64 < (good (cut 10 s)).length then ([], 65, 3)
  else if farIdx (good (cut 10 s)) < (good (cut 10 s)).length then ([], farIdx (good (cut 10 s)) + 1, 6)
  else (good (cut 10 s), 0, 0)
theorem good_map : ∀ l : List Ins, (∀ x ∈ l, insRight x = true ∧ x.Fit) → good (l.map fun x => mk (insText x)) = l
  | [], _ => rfl
  | x :: r, h => by
    have hx := h x (by simp)
    rw [List.map_cons, good, readIns_text x hx.1 hx.2]
    simp only
    rw [good_map r fun y hy => h y (by simp [hy])]
theorem readIns_empty : readIns (mk []) = none := by kernel_rfl
theorem text_ne (x : Ins) (h : insRight x = true) (hf : x.Fit) : insText x ≠ [] := fun e => by
  have := readIns_text x h hf
  rw [e, readIns_empty] at this
  cases this
theorem size_mk (l : List UInt8) : (mk l).size = l.length := by simp [mk, ByteArray.size]
theorem far_none (l : List Ins) (h : ∀ x ∈ l, x.to ≤ (l.length : Int)) : ¬ farIdx l < l.length := by
  unfold farIdx
  rw [List.findIdx_lt_length]
  rintro ⟨x, hx, hlt⟩
  have := h x hx
  simp at hlt
  omega
/-- A right program's text is read as it. -/
theorem readProg_text (l : List Ins) (h : progRight l = true) (hf : ∀ x ∈ l, x.Fit) : readProg (mk (progText l)) = (l, 0, 0) := by
  unfold progRight at h
  simp only [Bool.and_eq_true, decide_eq_true_eq, List.all_eq_true] at h
  obtain ⟨hl, ha⟩ := h
  cases l with
  | nil => rfl
  | cons x r =>
    have hx := ha x (by simp)
    have hne := text_ne x hx.1 (hf x (by simp))
    have hsz : ¬ (mk (progText (x :: r))).size = 0 := by
      rw [size_mk]
      intro e
      have e' := List.length_eq_zero_iff.1 e
      unfold progText at e'
      rw [List.map_cons, Lib.join_cons] at e'
      simp at e'
      exact hne e'.1
    have hcut : cut 10 (mk (progText (x :: r))) = (x :: r).map fun y => mk (insText y) := by
      unfold cut progText
      rw [mk_data, parts_join 10 _ (by simp) (fun z hz => by
        obtain ⟨y, hy, rfl⟩ := List.mem_map.1 hz
        exact text_line y (ha y hy).1 (hf y hy)), List.map_map]
      rfl
    have hg := good_map (x :: r) fun y hy => ⟨(ha y hy).1, hf y hy⟩
    unfold readProg
    rw [if_neg hsz, hcut, hg, if_neg (by simp), if_neg (by omega), if_neg (far_none _ fun y hy => (ha y hy).2)]
end Go.Proofs.YtmjojlacpgdomaaGreatDoor
