import Derived.Test.YtmjojlacpgdomaaGreatDoorAnum
import Derived.Test.YtmjojlacpgdomaaGreatDoorAhex
import Derived.Lib.SplitLaws
/-! Plain laws: a text parted at a byte and joined again; a number's digits read again. -/
namespace Go.Proofs.YtmjojlacpgdomaaGreatDoor
set_option linter.unusedSimpArgs false
set_option linter.unusedVariables false
open Go
/-- A text parted at a byte. -/
def parts (c : UInt8) : List UInt8 → List (List UInt8)
  | [] => [[]]
  | x :: r => if x = c then [] :: parts c r else match parts c r with
    | [] => [[x]]
    | p :: ps => (x :: p) :: ps
theorem parts_ne (c : UInt8) : ∀ l, parts c l ≠ []
  | [] => by simp [parts]
  | x :: r => by
    unfold parts
    split
    · simp
    · split <;> simp
theorem parts_none (c : UInt8) : ∀ p : List UInt8, c ∉ p → parts c p = [p]
  | [], _ => rfl
  | x :: r, h => by
    have h1 : x ≠ c := fun e => h (by simp [e])
    have h2 : c ∉ r := fun e => h (by simp [e])
    unfold parts
    rw [if_neg h1, parts_none c r h2]
theorem parts_append (c : UInt8) (r : List UInt8) : ∀ p : List UInt8, c ∉ p → parts c (p ++ c :: r) = p :: parts c r
  | [], _ => by simp [parts]
  | x :: p, h => by
    have h1 : x ≠ c := fun e => h (by simp [e])
    have h2 : c ∉ p := fun e => h (by simp [e])
    rw [List.cons_append, parts, if_neg h1, parts_append c r p h2]
theorem join_cons2 (x y : List UInt8) (r : List (List UInt8)) (c : UInt8) : Lib.join (x :: y :: r) [c] = x ++ c :: Lib.join (y :: r) [c] := by
  rw [Lib.join_cons, Lib.join_cons]
  simp [Lib.joinTail]
theorem parts_join (c : UInt8) : ∀ xs : List (List UInt8), xs ≠ [] → (∀ x ∈ xs, c ∉ x) → parts c (Lib.join xs [c]) = xs
  | [], h, _ => (h rfl).elim
  | [x], _, h => by rw [Lib.join_one]; exact parts_none c x (h x (by simp))
  | x :: y :: r, _, h => by
    rw [join_cons2, parts_append c _ x (h x (by simp)), parts_join c (y :: r) (by simp) (fun z hz => h z (by simp at hz ⊢; right; exact hz))]
theorem join_parts (c : UInt8) : ∀ l : List UInt8, Lib.join (parts c l) [c] = l
  | [] => rfl
  | x :: r => by
    have ih := join_parts c r
    unfold parts
    split
    · rename_i h
      subst h
      cases hp : parts x r with
      | nil => exact (parts_ne x r hp).elim
      | cons p ps => rw [join_cons2, ← hp, ih]; rfl
    · cases hp : parts c r with
      | nil => exact (parts_ne c r hp).elim
      | cons p ps =>
        rw [hp, Lib.join_cons] at ih
        simp only
        rw [Lib.join_cons, List.cons_append, ih]
theorem index_hd (c : UInt8) (l : List UInt8) : Lib.index (c :: l) [c] = 0 := by
  rw [Lib.index]; simp [List.isPrefixOf]
theorem index_tl (c x : UInt8) (l : List UInt8) (h : x ≠ c) : Lib.index (x :: l) [c] = if Lib.index l [c] == -1 then -1 else Lib.index l [c] + 1 := by
  have hp : ([c] : List UInt8).isPrefixOf (x :: l) = false := by simp [List.isPrefixOf, Ne.symm h]
  rw [Lib.index, hp]; simp
theorem split_parts (c : UInt8) : ∀ l : List UInt8, Lib.splitK [c] 0 (l.count c) l = parts c l
  | [] => rfl
  | x :: r => by
    have ih := split_parts c r
    by_cases h : x = c
    · subst h
      rw [List.count_cons_self, Lib.splitK, index_hd, parts, if_pos rfl, ← ih]
      simp
    · rw [List.count_cons_of_ne (by simpa using h), parts, if_neg h]
      cases hk : r.count c with
      | zero =>
        have hn : c ∉ r := fun e => by have := List.count_pos_iff.2 e; omega
        rw [parts_none c r hn]
        rfl
      | succ k =>
        rw [hk] at ih
        have hge := Lib.index_ge r [c]
        have hm : Lib.index r [c] ≠ -1 := fun e => by
          have h1 := Lib.count_miss e
          rw [Lib.count_one] at h1
          omega
        obtain ⟨j, hj⟩ : ∃ j : Nat, Lib.index r [c] = j := ⟨(Lib.index r [c]).toNat, by omega⟩
        rw [← ih]
        have hb : (Lib.index r [c] == -1) = false := beq_eq_false_iff_ne.2 hm
        have hi : Lib.index (x :: r) [c] = ((j + 1 : Nat) : Int) := by rw [index_tl c x r h, hb, hj]; simp
        have hb' : (Lib.index (x :: r) [c] == -1) = false := beq_eq_false_iff_ne.2 (by rw [hi]; omega)
        have hne : ¬ ((j : Int) + 1 = -1) := by omega
        simp only [Lib.splitK, hb, hb', hi, hj, Int.toNat_natCast]
        simp [hne]
def mk (l : List UInt8) : ByteArray := ⟨l.toArray⟩
theorem mk_data (l : List UInt8) : (mk l).data.toList = l := by simp [mk]
theorem mk_of (s : ByteArray) : mk s.data.toList = s := by obtain ⟨⟨l⟩⟩ := s; rfl
theorem mk_inj {a b : List UInt8} (h : mk a = mk b) : a = b := by have := congrArg (fun s => s.data.toList) h; simpa [mk] using this
/-- The words of a text, as strings. -/
def cut (c : UInt8) (s : ByteArray) : List ByteArray := (parts c s.data.toList).map mk
theorem cut_split (c : UInt8) (s : ByteArray) : Lib.splitB ⟨#[c]⟩ 0 (Lib.countB s ⟨#[c]⟩) s = cut c s := by
  have h := Lib.splitB_data ⟨#[c]⟩ 0 (Lib.countB s ⟨#[c]⟩) s
  have hc : Lib.countB s ⟨#[c]⟩ = s.data.toList.count c := by rw [← Lib.count_one]
  rw [hc] at h ⊢
  rw [show (ByteArray.mk #[c]).data.toList = [c] from rfl, split_parts] at h
  unfold cut
  rw [← h, List.map_map]
  conv => lhs; rw [← List.map_id (Lib.splitB ⟨#[c]⟩ 0 (s.data.toList.count c) s)]
  exact List.map_congr_left fun x _ => (mk_of x).symm
/-! A number's digits, read again. -/
theorem dec_char {d : Nat} (h : d < 10) : (UInt8.ofNat (48 + d)).toNat = 48 + d := by
  rw [UInt8.toNat_ofNat']; omega
theorem parse_dec (M : Nat) (hM : M ≤ 4294967295) (n : Nat) : ∀ r, n ≤ M → Lib.parseUintM M 0 (Lib.decDigits n ++ r) = Lib.parseUintM M n r := by
  induction n using Nat.strongRecOn with
  | _ n ih =>
    intro r h
    by_cases h10 : n < 10
    · rw [Lib.decDigits, dif_pos h10, List.singleton_append, Lib.parseUintM, dec_char h10, if_pos (by omega), if_neg (by omega), if_neg (by omega)]
      congr 1
      omega
    · rw [Lib.decDigits, dif_neg h10, List.append_assoc, ih (n / 10) (by omega) _ (by omega), List.singleton_append, Lib.parseUintM, dec_char (by omega), if_pos (by omega), if_neg (by omega), if_neg (by omega)]
      congr 1
      omega
theorem dec_ne (n : Nat) : Lib.decDigits n ≠ [] := by
  rw [Lib.decDigits]; split <;> simp
theorem parse_itoa (B n : Nat) (hB : 2 ^ B - 1 ≤ 4294967295) (h : n ≤ 2 ^ B - 1) : Lib.parseUintB B (Lib.decDigits n) = .ok n := by
  have := parse_dec (2 ^ B - 1) hB n [] h
  rw [List.append_nil] at this
  rw [Lib.parseUintB, if_neg (dec_ne n), this]
  rfl
theorem dec_chars (n : Nat) : ∀ c ∈ Lib.decDigits n, 48 ≤ c.toNat ∧ c.toNat ≤ 57 := by
  induction n using Nat.strongRecOn with
  | _ n ih =>
    intro c hc
    rw [Lib.decDigits] at hc
    split at hc
    · rename_i h; rw [List.mem_singleton] at hc; subst hc; rw [dec_char h]; omega
    · rename_i h
      rcases List.mem_append.1 hc with hc | hc
      · exact ih (n / 10) (by omega) c hc
      · rw [List.mem_singleton] at hc; subst hc; rw [dec_char (by omega)]; omega
theorem hex_char : ∀ d, d < 16 → digOf (hexdig d) = some d ∧ ((48 ≤ (hexdig d).toNat ∧ (hexdig d).toNat ≤ 57) ∨ (97 ≤ (hexdig d).toNat ∧ (hexdig d).toNat ≤ 102)) := by decide
theorem parse_hexN (M : Nat) : ∀ (f v : Nat) (r : List UInt8), v < 16 ^ f → v ≤ M → p16 M (hexN f v ++ r) 0 = p16 M r v
  | 0, v, r, h, _ => by obtain rfl : v = 0 := by simpa using h
                        rfl
  | f + 1, v, r, h, hM => by
    unfold hexN
    split
    · rename_i h16
      rw [List.singleton_append, p16, (hex_char v h16).1]
      simp only
      rw [if_neg (by omega)]
      congr 1
      omega
    · rename_i h16
      rw [List.append_assoc, parse_hexN M f (v / 16) _ (by rw [Nat.pow_succ] at h; omega) (by omega), List.singleton_append, p16, (hex_char (v % 16) (by omega)).1]
      simp only
      rw [if_neg (by omega)]
      congr 1
      omega
theorem hexN_ne : ∀ (f v : Nat), hexN (f + 1) v ≠ [] := by
  intro f v; unfold hexN; split <;> simp
theorem hex_again (M v : Nat) (h : v < 4294967296) (hM : v ≤ M) : hexNum M (hexN 8 v) = .ok v := by
  have := parse_hexN M 8 v [] (by simpa using h) hM
  rw [List.append_nil] at this
  rw [hexNum, parse16, if_neg (hexN_ne 7 v), this]
  rfl
theorem hex_chars : ∀ (f v : Nat), ∀ c ∈ hexN f v, (48 ≤ c.toNat ∧ c.toNat ≤ 57) ∨ (97 ≤ c.toNat ∧ c.toNat ≤ 102)
  | 0, v, c, hc => by simp [hexN] at hc
  | f + 1, v, c, hc => by
    unfold hexN at hc
    split at hc
    · rename_i h; rw [List.mem_singleton] at hc; subst hc; exact (hex_char v h).2
    · rcases List.mem_append.1 hc with hc | hc
      · exact hex_chars f _ c hc
      · rw [List.mem_singleton] at hc; subst hc; exact (hex_char (v % 16) (by omega)).2
theorem itoa_nat (n : Int) (h : 0 ≤ n) : Lib.itoa n = Lib.decDigits n.toNat := by rw [Lib.itoa, if_neg (by omega)]
end Go.Proofs.YtmjojlacpgdomaaGreatDoor
