-- Written by wip/xprint.py (this repo's program) over the kit's print; functions named in wip/hand are proved by hand.
import Derived.Test.YtfebloibnhejnaaXx0
import Derived.Test.YtfebloibnhejnaaXxpin
import Derived.Test.YtfebloibnhejnaaXxf11
import Derived.Test.YtfebloibnhejnaaXxf13
namespace Go.Proofs.Ytfebloibnhejnaa.X
open Go.RowKit Go.Proofs.Ytfebloibnhejnaa.H Go.Proofs.YtfebloibnhejnaaW.PrintWords Go.Proofs.YtfebloibnhejnaaW.PrintLast Go.Proofs.YtfebloibnhejnaaW.PrintMore
attribute [local go_sem] max2_int min2_int max_two min_two max_three min_three max_four min_four   -- for this text's walks alone
set_option linter.unusedVariables false
set_option linter.unusedSimpArgs false

/-! ### PLAIN op -/
theorem specOpOk_f (a b c d e f g : Int) (k : Nat) (hk : 2 ≤ k) : spec_OpOk.f k a b c d e f g = some (opOk a b c d e f g) := by
  obtain ⟨k, rfl⟩ : ∃ j, k = j + 2 := ⟨k - 2, by omega⟩
  unfold spec_OpOk.f
  simp only [l1In_f, Option.bind_some]
  have key : ∀ h : nOk b = true ∧ nOk c = true ∧ nOk d = true ∧ sOk e = true ∧ nOk f = true ∧ sOk g = true, opOk a b c d e f g = opKind a b c d e f g := by
    rintro ⟨h1, h2, h3, h4, h5, h6⟩
    unfold opOk
    simp [h1, h2, h3, h4, h5, h6]
  have no : ∀ h : ¬ (nOk b = true ∧ nOk c = true ∧ nOk d = true ∧ sOk e = true ∧ nOk f = true ∧ sOk g = true), opOk a b c d e f g = false := by
    intro h
    cases hh : opOk a b c d e f g with
    | false => rfl
    | true =>
      exfalso
      unfold opOk at hh
      simp only [Bool.and_eq_true] at hh
      exact h ⟨hh.1.1.1.1.1.1, hh.1.1.1.1.1.2, hh.1.1.1.1.2, hh.1.1.2, hh.1.1.1.2, hh.1.2⟩
  have e0 : ∀ x : Int, (decide (0 ≤ x) && decide (x ≤ 9)) = nOk x := fun _ => rfl
  have e1 : ∀ x : Int, (decide (0 ≤ x) && decide (x ≤ 99)) = sOk x := fun _ => rfl
  simp only [e0, e1]
  have hf : spec_OpOk.j0 (k + 2) true a b c d e f g = some false := by rw [spec_OpOk.j0, if_pos rfl]
  have ht : spec_OpOk.j0 (k + 2) false a b c d e f g = some (opKind a b c d e f g) := by
    rw [spec_OpOk.j0, if_neg (by simp)]
    unfold opKind
    by_cases h1 : a = 1
    · subst h1
      rw [if_pos rfl]
      rw [spec_OpOk.j1]
      rw [if_pos (by rfl)]
      by_cases x1 : d = 0 <;> by_cases x2 : e = 0 <;> by_cases x3 : f = 0 <;> simp [x1, x2, x3]
    · rw [if_neg h1]
      rw [spec_OpOk.j1]
      by_cases h5 : a = 5
      · subst h5
        rw [if_pos (by rfl)]
        by_cases x1 : d = 0 <;> by_cases x2 : e = 0 <;> by_cases x3 : f = 0 <;> simp [x1, x2, x3]
      · rw [if_neg (by simp [h5])]
        have hn : ¬ ((a == 1 || a == 5) = true) := by simp [h1, h5]
        rw [if_neg hn]
        by_cases h2 : a = 2
        · subst h2
          by_cases x3 : f = 0 <;> simp [x3]
        · rw [if_neg h2, if_neg (show ¬ ((a == 2) = true) by simpa using h2)]
          by_cases h3 : a = 3
          · subst h3
            by_cases x1 : b = 0 <;> by_cases x2 : c = 0 <;> simp [x1, x2]
          · rw [if_neg h3, if_neg (show ¬ ((a == 3) = true) by simpa using h3)]
            by_cases h4 : a = 4
            · subst h4
              by_cases x1 : b = 0 <;> by_cases x2 : c = 0 <;> by_cases x3 : d = 0 <;> simp [x1, x2, x3]
            · rw [if_neg h4, if_neg (show ¬ ((a == 4) = true) by simpa using h4)]
  by_cases h1 : nOk b = true
  case neg => rw [if_neg h1, hf, no (by simp [h1])]
  rw [if_pos h1]
  by_cases h2 : nOk c = true
  case neg => rw [if_neg h2, hf, no (by simp [h2])]
  rw [if_pos h2]
  by_cases h3 : nOk d = true
  case neg => rw [if_neg h3, hf, no (by simp [h3])]
  rw [if_pos h3]
  by_cases h4 : sOk e = true
  case neg => rw [if_neg h4, hf, no (by simp [h4])]
  rw [if_pos h4]
  by_cases h5 : nOk f = true
  case neg => rw [if_neg h5, hf, no (by simp [h5])]
  rw [if_pos h5]
  by_cases h6 : sOk g = true
  case neg => rw [Bool.not_eq_true] at h6; rw [h6]; exact hf.trans (congrArg some (no (by simp [h6])).symm)
  rw [h6, key ⟨h1, h2, h3, h4, h5, h6⟩]
  exact ht

end Go.Proofs.Ytfebloibnhejnaa.X
