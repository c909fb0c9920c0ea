-- Written by wip/xprint.py (this repo's program) over the kit's print; functions named in wip/hand are proved by hand.
import Derived.Test.YtopoiinmhajhmaaDoorXx0
import Derived.Test.YtopoiinmhajhmaaDoorWShare
import Derived.Test.YtopoiinmhajhmaaDoorWKept
import Derived.Test.YtopoiinmhajhmaaDoorXxf60
namespace Go.Proofs.YtopoiinmhajhmaaDoor.X
open Go.RowKit Go.Proofs.YtopoiinmhajhmaaDoor.H Go.Proofs.YtopoiinmhajhmaaDoorW.PrintWords Go.Proofs.YtopoiinmhajhmaaDoorW.PrintLast Go.Proofs.YtopoiinmhajhmaaDoorW.PrintMore
attribute [local go_sem] max2_int min2_int max_two min_two max_three min_three max_four min_four   -- for this text's walks alone
set_option linter.unusedVariables false
set_option linter.unusedSimpArgs false

/-! ### impl_keyOk: function 66 -/
def impl_keyOk.f (a0 : ByteArray) : Option Bool := some (keyOk a0)
set_option maxHeartbeats 1000000 in
theorem impl_keyOk.calls (a0 : ByteArray) (r : Bool) (w : World) (h : impl_keyOk.f a0 = some r) :
    Calls Tryd.prog 66 #[.string a0] w fun e w' => e = .returned (.bool r) ∧ Below w.heap.size w w' := by
  obtain rfl := Option.some.inj h
  have hin : ∀ x a b : Int, impl_in.f x a b = some (decide (a ≤ x) && decide (x ≤ b)) := by
    intro x a b
    unfold impl_in.f
    by_cases e : a ≤ x
    · rw [if_pos e]; simp [e]
    · rw [if_neg e]; simp [e]
  by_cases e1 : 2 ≤ a0.size ∧ a0.size ≤ 3
  · have h1 := Aside0.mk (show impl_in.f (a0.size : Int) 2 3 = some true by rw [hin]; simp; omega)
    have hsz := Aside0.mk (show a0.size ≤ 9223372036854775807 by omega)
    have hi0 : 0 < a0.size := by omega
    have hi1 : 1 ≤ a0.size := by omega
    by_cases e2 : 97 ≤ bt a0 0 ∧ bt a0 0 ≤ 122
    · have h2 := Aside0.mk (show impl_in.f (bt a0 0) 97 122 = some true by rw [hin]; simp; omega)
      have hv := Aside0.mk (show keyOk a0 = (a0.extract 1 a0.size).data.toList.all (digits.contains ·) by rw [keyOk_def, decide_eq_true e1.1, decide_eq_true e1.2, decide_eq_true e2.1, decide_eq_true e2.2]; simp)
      clear e1 e2 hin
      go_enter Tryd.func66, Tryd.ntmps66
      go_wp2_with (first | (go_at_call 60; refine (impl_in.calls _ _ _ true _ ?hh).mono ?_; (case hh => first | (with_reducible exact h1.out) | (rw [bt_w a0 hi0]; exact h2.out)); rintro e w' ⟨rfl, ⟨nd, rfl⟩⟩) | (go_at_call 100; refine (Tryd.strings_Trim_laid (a0.extract 1 a0.size) ⟨#[48, 49, 50, 51, 52, 53, 54, 55, 56, 57]⟩ _ ?hs ?hc ?ha).mono ?_; (case hs => have := hsz.out; simp; omega); (case hc => decide); (case ha => exact ascii_of_all (by decide)); rintro e w' ⟨rfl, hb⟩))
      all_goals
        go_ret
        refine ⟨?_, (Drawn0.below ⟨⟨_, rfl⟩⟩).trans hb⟩
        rw [hv.out, ← trim_key a0]
        rfl
    · have h2 := Aside0.mk (show impl_in.f (bt a0 0) 97 122 = some false by rw [hin]; simp; omega)
      have hv := Aside0.mk (show keyOk a0 = false by rw [keyOk_def]; simp; omega)
      clear e1 e2 hin
      go_enter Tryd.func66, Tryd.ntmps66
      go_wp2_with (first | (go_at_call 60; refine (impl_in.calls _ _ _ true _ ?hh).mono ?_; (case hh => (with_reducible exact h1.out)); rintro e w' ⟨rfl, ⟨nd, rfl⟩⟩) | (go_at_call 60; refine (impl_in.calls _ _ _ false _ ?hh).mono ?_; (case hh => (rw [bt_w a0 hi0]; exact h2.out)); rintro e w' ⟨rfl, ⟨nd, rfl⟩⟩))
      go_ret
      exact ⟨by rw [hv.out]; rfl, Drawn0.below ⟨⟨_, rfl⟩⟩⟩
  · have h1 := Aside0.mk (show impl_in.f (a0.size : Int) 2 3 = some false by rw [hin]; simp; omega)
    have hv := Aside0.mk (show keyOk a0 = false by rw [keyOk_def]; simp; omega)
    clear e1 hin
    go_enter Tryd.func66, Tryd.ntmps66
    go_wp2_with (first | (go_at_call 60; refine (impl_in.calls (a0.size : Int) 2 3 false _ h1.out).mono ?_; rintro e w' ⟨rfl, ⟨nd, rfl⟩⟩))
    go_ret
    exact ⟨by rw [hv.out]; rfl, (Drawn0.below ⟨⟨nd, rfl⟩⟩)⟩

end Go.Proofs.YtopoiinmhajhmaaDoor.X
