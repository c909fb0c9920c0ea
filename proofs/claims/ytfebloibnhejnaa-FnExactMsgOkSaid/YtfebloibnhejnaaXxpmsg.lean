-- Written by wip/xprint.py (this repo's program) over the kit's print; functions named in wip/hand are proved by hand.
import Derived.Test.YtfebloibnhejnaaXx0
import Derived.Test.YtfebloibnhejnaaXxpin
import Derived.Test.YtfebloibnhejnaaXxpop
import Derived.Test.YtfebloibnhejnaaXxf13
import Derived.Test.YtfebloibnhejnaaXxf14
import Derived.Test.YtfebloibnhejnaaXxf31
import Derived.Test.YtfebloibnhejnaaXxf32
import Derived.Test.YtfebloibnhejnaaXxf16
namespace Go.Proofs.Ytfebloibnhejnaa.X
open Go.RowKit Go.Proofs.Ytfebloibnhejnaa.H Go.Proofs.YtfebloibnhejnaaW.PrintWords Go.Proofs.YtfebloibnhejnaaW.PrintLast Go.Proofs.YtfebloibnhejnaaW.PrintMore
attribute [local go_sem] max2_int min2_int max_two min_two max_three min_three max_four min_four   -- for this text's walks alone
set_option linter.unusedVariables false
set_option linter.unusedSimpArgs false

/-! ### PLAIN msg -/
def inB (x a b : Int) : Bool := decide (a ≤ x) && decide (x ≤ b)
def none7 (a b c d e f g : Int) : Bool := a == 0 && (b == 0 && (c == 0 && (d == 0 && (e == 0 && (f == 0 && (g == 0))))))
/-- Just what asks that one be ready says what is done; to the front, or from it. -/
def msgOk (k t f x : Int) (z o : Bool) : Bool :=
  inB x 0 29 && (if k = 1 then ((f == 0) && (inB t 1 3 && o)) else z && (if k = 2 ∨ k = 3 then ((f == 0) && inB t 1 3) else (inB k 4 7 && ((t == 0) && inB f 1 3))))
theorem specMsgOk_f (k t f x a b c d e g h : Int) (n : Nat) (hn : 2 ≤ n) : spec_MsgOk.f n k t f x a b c d e g h = some (msgOk k t f x (none7 a b c d e g h) (opOk a b c d e g h)) := by
  obtain ⟨n, rfl⟩ : ∃ j, n = j + 1 := ⟨n - 1, by omega⟩
  unfold spec_MsgOk.f
  simp only [l1In_f, Option.bind_some, specOpOk_f a b c d e g h (n + 1) hn, spec_MsgOk.j0]
  have hz : (!(a == 0) || (!(b == 0) || (!(c == 0) || (!(d == 0) || (!(e == 0) || (!(g == 0) || (!(h == 0)))))))) = !(none7 a b c d e g h) := by unfold none7; simp only [Bool.not_and]
  rw [hz]
  change _ = some (inB x 0 29 && _)
  unfold inB
  generalize (decide (0 ≤ x) && decide (x ≤ 29)) = bx
  generalize (decide (1 ≤ t) && decide (t ≤ 3)) = bt
  generalize (decide (1 ≤ f) && decide (f ≤ 3)) = bf
  generalize (decide (4 ≤ k) && decide (k ≤ 7)) = bk
  generalize opOk a b c d e g h = o
  generalize none7 a b c d e g h = z
  cases bx
  · rfl
  by_cases h1 : k = 1
  · subst h1
    by_cases h2 : f = 0
    · cases bt <;> simp [h2]
    · simp [h2]
  · cases z
    · simp [h1]
    · by_cases h3 : k = 2
      · subst h3
        by_cases h2 : f = 0 <;> simp [h2]
      · by_cases h4 : k = 3
        · subst h4
          by_cases h2 : f = 0 <;> simp [h2]
        · by_cases h5 : t = 0 <;> cases bk <;> simp [h1, h3, h4, h5]
theorem implMsgOk_f (k t f x a b c d e g h : Int) (n : Nat) (hn : 1 ≤ n) : impl_MsgOk.f n k t f x a b c d e g h = some (msgOk k t f x (none7 a b c d e g h) (opOk a b c d e g h)) := by
  obtain ⟨n, rfl⟩ : ∃ j, n = j + 1 := ⟨n - 1, by omega⟩
  unfold impl_MsgOk.f
  simp only [in_f, Option.bind_some, impl_MsgOk.j0, impl_OpOk.f, impl_isService.f, impl_isTx.f]
  change _ = some (inB x 0 29 && _)
  have hz : (a == 0 && (b == 0 && (c == 0 && (d == 0 && (e == 0 && (g == 0 && (h == 0))))))) = none7 a b c d e g h := rfl
  rw [hz]
  have h17 : (decide (1 ≤ k) && decide (k ≤ 7)) = (decide (k = 1) || (decide (k = 2) || decide (k = 3)) || inB k 4 7) := by
    unfold inB
    by_cases h1 : k = 1
    · subst h1; rfl
    · by_cases h2 : k = 2
      · subst h2; rfl
      · by_cases h3 : k = 3
        · subst h3; rfl
        · rw [decide_eq_false h1, decide_eq_false h2, decide_eq_false h3]
          simp only [Bool.false_or]
          rw [Bool.eq_iff_iff]
          simp only [Bool.and_eq_true, decide_eq_true_eq]
          omega
  rw [h17]
  unfold inB
  generalize (decide (0 ≤ x) && decide (x ≤ 29)) = bx
  generalize (decide (1 ≤ t) && decide (t ≤ 3)) = bt
  generalize (decide (1 ≤ f) && decide (f ≤ 3)) = bf
  generalize opOk a b c d e g h = o
  generalize none7 a b c d e g h = z
  by_cases h1 : k = 1
  · subst h1
    by_cases h2 : f = 0 <;> cases bx <;> cases bt <;> simp [h2]
  · by_cases h3 : k = 2
    · subst h3
      by_cases h2 : f = 0 <;> cases bx <;> cases bt <;> cases z <;> simp [h2]
    · by_cases h4 : k = 3
      · subst h4
        by_cases h2 : f = 0 <;> cases bx <;> cases bt <;> cases z <;> simp [h2]
      · generalize (decide (4 ≤ k) && decide (k ≤ 7)) = bk
        cases bk <;> cases bx <;> cases bt <;> cases bf <;> cases z <;> by_cases h5 : t = 0 <;> by_cases h2 : f = 0 <;> simp [h1, h2, h3, h4, h5]

end Go.Proofs.Ytfebloibnhejnaa.X
