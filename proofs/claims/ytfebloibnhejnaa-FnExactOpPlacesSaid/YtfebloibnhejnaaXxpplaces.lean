-- Written by wip/xprint.py (this repo's program) over the kit's print; functions named in wip/hand are proved by hand.
import Derived.Test.YtfebloibnhejnaaXx0
import Derived.Test.YtfebloibnhejnaaXxpop
import Derived.Test.YtfebloibnhejnaaXxf13
import Derived.Test.YtfebloibnhejnaaXxf17
import Derived.Test.YtfebloibnhejnaaXxf18
namespace Go.Proofs.Ytfebloibnhejnaa.X
open Go.RowKit Go.Proofs.Ytfebloibnhejnaa.H Go.Proofs.YtfebloibnhejnaaW.PrintWords Go.Proofs.YtfebloibnhejnaaW.PrintLast Go.Proofs.YtfebloibnhejnaaW.PrintMore
attribute [local go_sem] max2_int min2_int max_two min_two max_three min_three max_four min_four   -- for this text's walks alone
set_option linter.unusedVariables false
set_option linter.unusedSimpArgs false

/-! ### PLAIN places -/
def places (a b c d e f g : Int) : List Int := if opOk a b c d e f g = true then (if a = 1 then [1, 3] else if a = 2 then [1, 2, 3] else if a = 5 then [1, 2, 3] else [2, 3]) else []
theorem implPlaces_f (a b c d e f g : Int) : impl_OpPlaces.f a b c d e f g = some (places a b c d e f g) := by
  unfold impl_OpPlaces.f impl_OpOk.f places
  simp only [Option.bind_some]
  by_cases h : opOk a b c d e f g = true
  · rw [if_pos h, if_pos h]
    by_cases h1 : a = 1
    · rw [if_pos h1, if_pos h1]
    · rw [if_neg h1, if_neg h1]
      by_cases h2 : a = 2
      · rw [if_pos h2, if_pos h2]
      · rw [if_neg h2, if_neg h2]
        by_cases h5 : a = 5
        · rw [if_pos h5, if_pos h5]
        · rw [if_neg h5, if_neg h5]
  · rw [if_neg h, if_neg h]
theorem specPlaces_f (a b c d e f g : Int) (k : Nat) (hk : 2 ≤ k) : spec_OpPlaces.f k a b c d e f g = some (places a b c d e f g) := by
  rw [← implPlaces_f]
  unfold spec_OpPlaces.f impl_OpPlaces.f impl_OpOk.f
  rw [specOpOk_f a b c d e f g k hk]
theorem places_one (a b c d e f g : Int) : places a b c d e f g = [] ∨ places a b c d e f g = [1, 3] ∨ places a b c d e f g = [1, 2, 3] ∨ places a b c d e f g = [2, 3] := by
  unfold places
  by_cases h : opOk a b c d e f g = true
  · rw [if_pos h]
    by_cases h1 : a = 1
    · rw [if_pos h1]; simp
    · rw [if_neg h1]
      by_cases h2 : a = 2
      · rw [if_pos h2]; simp
      · rw [if_neg h2]
        by_cases h5 : a = 5
        · rw [if_pos h5]; simp
        · rw [if_neg h5]; simp
  · rw [if_neg h]; simp

end Go.Proofs.Ytfebloibnhejnaa.X
