-- Written by wip/xprint.py (this repo's program) over the kit's print; functions named in wip/hand are proved by hand.
import Derived.Test.YtopoiinmhajhmaaDoorXx0
import Derived.Test.YtopoiinmhajhmaaDoorXxpin
import Derived.Test.YtopoiinmhajhmaaDoorXxf63
import Derived.Test.YtopoiinmhajhmaaDoorXxf64
import Derived.Test.YtopoiinmhajhmaaDoorXxf20
namespace Go.Proofs.YtopoiinmhajhmaaDoor.X
open Go.RowKit Go.Proofs.YtopoiinmhajhmaaDoor.H Go.Proofs.YtopoiinmhajhmaaDoorW.PrintWords Go.Proofs.YtopoiinmhajhmaaDoorW.PrintLast Go.Proofs.YtopoiinmhajhmaaDoorW.PrintMore
attribute [local go_sem] max2_int min2_int max_two min_two max_three min_three max_four min_four   -- for this text's walks alone
set_option linter.unusedVariables false
set_option linter.unusedSimpArgs false

/-! ### PLAIN l1 -/
theorem digits_has (b : UInt8) : digits.contains b = (decide (48 ≤ b.toNat) && decide (b.toNat ≤ 57)) := by
  rw [Bool.eq_iff_iff]
  simp only [digits, List.contains_iff_mem, List.mem_cons, List.not_mem_nil, or_false, Bool.and_eq_true, decide_eq_true_eq, ← UInt8.toNat_inj]
  constructor
  · intro h
    rcases h with h | h | h | h | h | h | h | h | h | h <;> (rw [h]; decide)
  · intro h
    have e : ∀ n : Nat, 48 ≤ n ∧ n ≤ 57 → n = 48 ∨ n = 49 ∨ n = 50 ∨ n = 51 ∨ n = 52 ∨ n = 53 ∨ n = 54 ∨ n = 55 ∨ n = 56 ∨ n = 57 := by intro n; omega
    exact e _ h
def digitAt (s : ByteArray) (j : Nat) : Bool := decide (48 ≤ bt s j) && decide (bt s j ≤ 57)
def digitsFrom (s : ByteArray) (i : Nat) : Bool := (List.range' i (s.size - i)).all (digitAt s)
theorem digitsFrom_eq (s : ByteArray) : digitsFrom s 1 = (s.extract 1 s.size).data.toList.all (digits.contains ·) := by
  obtain ⟨⟨l⟩⟩ := s
  have e : ((ByteArray.mk ⟨l⟩).extract 1 (ByteArray.mk ⟨l⟩).size).data.toList = l.drop 1 := by
    simp only [ByteArray.data_extract, Array.toList_extract, List.extract_eq_take_drop, ByteArray.size, List.size_toArray]
    exact List.take_of_length_le (by simp)
  rw [e, Bool.eq_iff_iff, digitsFrom, List.all_eq_true, List.all_eq_true]
  have hb : ∀ j (hj : j < l.length), digitAt ⟨⟨l⟩⟩ j = digits.contains l[j] := by
    intro j hj
    have hbt : bt ⟨⟨l⟩⟩ (j : Int) = (l[j].toNat : Int) := by
      unfold bt
      rw [dif_pos (by simpa [ByteArray.size] using hj)]
      rfl
    rw [digits_has, digitAt, hbt]
    congr 1
    · exact decide_eq_decide.2 (by omega)
    · exact decide_eq_decide.2 (by omega)
  constructor
  · intro h x hx
    obtain ⟨j, hj, rfl⟩ := List.getElem_of_mem hx
    rw [List.length_drop] at hj
    rw [List.getElem_drop, ← hb (1 + j) (by omega)]
    exact h (1 + j) (List.mem_range'.2 ⟨j, by simpa [ByteArray.size] using hj, by omega⟩)
  · intro h j hj
    obtain ⟨i, hi, rfl⟩ := List.mem_range'.1 hj
    have hi' : i < l.length - 1 := by simpa [ByteArray.size] using hi
    rw [show 1 + 1 * i = 1 + i by omega, hb (1 + i) (by omega)]
    have h2 := h ((l.drop 1)[i]'(by rw [List.length_drop]; exact hi')) (List.getElem_mem _)
    rw [List.getElem_drop] at h2
    exact h2
theorem l1Key_loop (s : ByteArray) (hs : s.size ≤ 9223372036854775807) : ∀ d (i k : Nat), s.size - i = d → i ≤ s.size → d < k → spec_l1Key.l0 k s i = some (digitsFrom s i) := by
  intro d
  induction d with
  | zero =>
    intro i k hd hi hk
    obtain ⟨k, rfl⟩ : ∃ m, k = m + 1 := ⟨k - 1, by omega⟩
    simp only [spec_l1Key.l0]
    rw [if_neg (by omega)]
    unfold digitsFrom
    rw [hd]; rfl
  | succ d ih =>
    intro i k hd hi hk
    obtain ⟨k, rfl⟩ : ∃ m, k = m + 1 := ⟨k - 1, by omega⟩
    simp only [spec_l1Key.l0]
    rw [if_pos (by omega), if_pos (by omega), show wrap64 ((i : Int) + 1) = ((i + 1 : Nat) : Int) by unfold wrap64; omega, ih (i + 1) k (by omega) (by omega) (by omega)]
    have e : digitsFrom s i = (digitAt s i && digitsFrom s (i + 1)) := by
      unfold digitsFrom
      rw [show s.size - i = (s.size - (i + 1)) + 1 by omega, List.range'_succ, List.all_cons]
    rw [e]
    by_cases h1 : bt s i < 48
    · rw [if_pos h1]
      simp [digitAt, show ¬ (48 ≤ bt s i) by omega]
    · rw [if_neg h1]
      by_cases h2 : bt s i > 57
      · rw [if_pos h2]
        simp [digitAt, show ¬ (bt s i ≤ 57) by omega]
      · rw [if_neg h2]
        simp [digitAt, show (48 ≤ bt s i) by omega, show (bt s i ≤ 57) by omega]
theorem l1Key_f (s : ByteArray) (k : Nat) (hk : 6 ≤ k) : spec_l1Key.f k s = some (keyOk s) := by
  obtain ⟨k, rfl⟩ : ∃ m, k = m + 1 := ⟨k - 1, by omega⟩
  unfold spec_l1Key.f
  rw [l1In_f, keyOk_def, ← digitsFrom_eq]
  simp only [Option.bind_some, spec_l1Key.j0]
  by_cases h1 : 2 ≤ s.size ∧ s.size ≤ 3
  · have a1 : decide ((2 : Int) ≤ (s.size : Int)) = true := decide_eq_true (by omega)
    have a2 : decide ((s.size : Int) ≤ 3) = true := decide_eq_true (by omega)
    rw [a1, a2, decide_eq_true h1.1, decide_eq_true h1.2]
    rw [if_pos (by rfl), if_pos (by omega)]
    have hl := l1Key_loop s (by omega) (s.size - 1) 1 k rfl (by omega) (by omega)
    by_cases h2 : bt s 0 < 97
    · rw [if_pos h2]
      simp [show ¬ (97 ≤ bt s 0) by omega]
    · rw [if_neg h2]
      by_cases h3 : bt s 0 > 122
      · rw [decide_eq_true h3]
        simp [show ¬ (bt s 0 ≤ 122) by omega]
      · rw [decide_eq_false h3, if_neg (by decide)]
        rw [show ((1 : Int)) = ((1 : Nat) : Int) from rfl, hl]
        simp [show (97 ≤ bt s 0) by omega, show (bt s 0 ≤ 122) by omega]
  · have : (decide ((2 : Int) ≤ (s.size : Int)) && decide ((s.size : Int) ≤ 3)) = false := by simp; omega
    rw [this, if_neg (by decide)]
    have : (decide (2 ≤ s.size) && decide (s.size ≤ 3)) = false := by simp; omega
    rw [this]; simp
theorem l1Val_loop (l : List Int) (hl : l.length ≤ 9223372036854775807) : ∀ d (i k : Nat), l.length - i = d → i ≤ l.length → d < k → spec_l1Val.l0 k l i = some ((l.drop i).all numOk && (decide (1 ≤ l.length) && decide (l.length ≤ 3))) := by
  intro d
  induction d with
  | zero =>
    intro i k hd hi hk
    obtain ⟨k, rfl⟩ : ∃ m, k = m + 1 := ⟨k - 1, by omega⟩
    simp only [spec_l1Val.l0]
    rw [if_neg (by omega), l1In_f, List.drop_of_length_le (by omega)]
    simp only [Option.bind_some, List.all_nil, Bool.true_and]
    rw [show decide ((1 : Int) ≤ (l.length : Int)) = decide (1 ≤ l.length) from decide_eq_decide.2 (by omega), show decide ((l.length : Int) ≤ 3) = decide (l.length ≤ 3) from decide_eq_decide.2 (by omega)]
  | succ d ih =>
    intro i k hd hi hk
    obtain ⟨k, rfl⟩ : ∃ m, k = m + 1 := ⟨k - 1, by omega⟩
    simp only [spec_l1Val.l0]
    rw [if_pos (by omega), if_pos (by omega), show wrap64 ((i : Int) + 1) = ((i + 1 : Nat) : Int) by unfold wrap64; omega, ih (i + 1) k (by omega) (by omega) (by omega), l1In_f, rd_get l i (by omega)]
    rw [List.drop_eq_getElem_cons (show i < l.length by omega), List.all_cons]
    simp only [Option.bind_some]
    have e : numOk l[i] = (decide (0 ≤ l[i]) && decide (l[i] ≤ 9999)) := rfl
    rw [← e]
    cases numOk l[i] <;> simp
theorem l1Val_f (l : List Int) (hl : l.length ≤ 9223372036854775807) (k : Nat) (hk : l.length + 1 ≤ k) : spec_l1Val.f k l = some (valOk l) := by
  unfold spec_l1Val.f
  rw [show (0 : Int) = ((0 : Nat) : Int) from rfl, l1Val_loop l hl l.length 0 k (by omega) (by omega) (by omega)]
  unfold valOk
  rw [List.drop_zero, Bool.and_comm]
/-- May it be written? -/
def wrtOk (s : ByteArray) (del : Bool) (l : List Int) : Bool := keyOk s && (if del then l.isEmpty else valOk l)
theorem specWrtOk_f (s : ByteArray) (del : Bool) (l : List Int) (hl : l.length ≤ 9223372036854775807) (k : Nat) (hk : l.length + 6 ≤ k) : spec_WrtOk.f k s del l = some (wrtOk s del l) := by
  unfold spec_WrtOk.f wrtOk
  rw [l1Key_f s k (by omega), l1Val_f l hl k (by omega)]
  simp only [Option.bind_some]
  cases del <;> cases keyOk s <;> simp
  cases l with
  | nil => rfl
  | cons a l => simp; omega

end Go.Proofs.YtopoiinmhajhmaaDoor.X
