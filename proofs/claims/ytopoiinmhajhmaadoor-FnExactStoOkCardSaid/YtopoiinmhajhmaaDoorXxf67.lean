-- Written by wip/xprint.py (this repo's program) over the kit's print; functions named in wip/hand are proved by hand.
import Derived.Test.YtopoiinmhajhmaaDoorXx0
import Derived.Test.YtopoiinmhajhmaaDoorWShare
import Derived.Test.YtopoiinmhajhmaaDoorWKept
import Derived.Test.YtopoiinmhajhmaaDoorXxf60
import Derived.Test.YtopoiinmhajhmaaDoorXxf101
import Derived.Test.YtopoiinmhajhmaaDoorXxf102
namespace Go.Proofs.YtopoiinmhajhmaaDoor.X
open Go.RowKit Go.Proofs.YtopoiinmhajhmaaDoor.H Go.Proofs.YtopoiinmhajhmaaDoorW.PrintWords Go.Proofs.YtopoiinmhajhmaaDoorW.PrintLast Go.Proofs.YtopoiinmhajhmaaDoorW.PrintMore
attribute [local go_sem] max2_int min2_int max_two min_two max_three min_three max_four min_four   -- for this text's walks alone
set_option linter.unusedVariables false
set_option linter.unusedSimpArgs false

/-! ### impl_valOk: function 67 -/
def impl_valOk.f (l0 : List Int) : Option Bool := some (valOk l0)
set_option maxHeartbeats 1000000 in
theorem impl_valOk.calls (A0 : Option Addr) (c0 : Nat) (l0 : List Int) (r : Bool) (w : World) (hr0 : Kd.C (Kd.int .i64) w A0 l0.length l0) (hc0 : l0.length ≤ c0) (h : impl_valOk.f l0 = some r) :
    Calls Tryd.prog 67 #[.slice A0 l0.length c0] w fun e w' => e = .returned (.bool r) ∧ Below w.heap.size w w' := by
  obtain rfl := Option.some.inj h
  have eg := enters_of Tryd.func102 (by kernel_rfl) rfl
  have hp : ∀ w0 W x, x ∈ l0 → Below w0.heap.size w0 W → Calls Tryd.prog 102 (#[.int .i64 x] ++ #[]) W fun e w' => e = .returned (.bool (!numOk x)) ∧ Below w0.heap.size w0 w' := by
    intro w0 W x _ hb
    refine (impl_valOk_1.calls x (!numOk x) W ?_).mono ?_
    · unfold impl_valOk_1.f impl_in.f numOk
      by_cases e : x ≥ 0
      · rw [if_pos e]; simp [e]
      · rw [if_neg e]; simp [e]
    · rintro e w' ⟨rfl, hd⟩
      exact ⟨rfl, below_then hb hb.size hd.below⟩
  have HR := Aside0.mk hr0
  have HP := Aside0.mk hp
  have EG := Aside0.mk eg
  clear hp hr0 eg
  by_cases e1 : 1 ≤ l0.length ∧ l0.length ≤ 3
  · have h1 := Aside0.mk (show impl_in.f (l0.length : Int) 1 3 = some true by unfold impl_in.f; rw [if_pos (by omega)]; simp; omega)
    have hv := Aside0.mk (show valOk l0 = !(l0.any fun x => !numOk x) by rw [valOk_any, decide_eq_true e1.1, decide_eq_true e1.2]; simp)
    clear e1
    go_enter Tryd.func67, Tryd.ntmps67
    go_wp2_with (first | (go_at_call 60; refine (impl_in.calls (l0.length : Int) 1 3 true _ h1.out).mono ?_; rintro e w' ⟨rfl, ⟨nd, rfl⟩⟩) | (go_at_call 101; refine (ContainsFunc_int.calls 102 #[] (fun x => !numOk x) A0 c0 l0 _ EG.out (HP.out _) (Kd.C_below HR.out (Drawn0.below ⟨⟨nd, rfl⟩⟩)) hc0).mono ?_; rintro e w' ⟨rfl, hb⟩))
    go_ret
    exact ⟨by rw [hv.out]; rfl, (Drawn0.below ⟨⟨nd, rfl⟩⟩).trans hb⟩
  · have h1 := Aside0.mk (show impl_in.f (l0.length : Int) 1 3 = some false by
      unfold impl_in.f
      by_cases e : 1 ≤ l0.length
      · rw [if_pos (by omega)]; simp; omega
      · rw [if_neg (by omega)])
    have hv := Aside0.mk (show valOk l0 = false by unfold valOk; simp; omega)
    clear e1
    go_enter Tryd.func67, Tryd.ntmps67
    go_wp2_with (first | (go_at_call 60; refine (impl_in.calls (l0.length : Int) 1 3 false _ h1.out).mono ?_; rintro e w' ⟨rfl, ⟨nd, rfl⟩⟩))
    go_ret
    exact ⟨by rw [hv.out]; rfl, (Drawn0.below ⟨⟨nd, rfl⟩⟩)⟩

end Go.Proofs.YtopoiinmhajhmaaDoor.X
