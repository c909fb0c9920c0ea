-- Written by wip/xprint.py (this repo's program) over the kit's print; functions named in wip/hand are proved by hand.
import Derived.Test.YtopoiinmhajhmaaDoorXx0
import Derived.Test.YtopoiinmhajhmaaDoorWShare
import Derived.Test.YtopoiinmhajhmaaDoorWKept
import Derived.Test.YtopoiinmhajhmaaDoorXxf124
namespace Go.Proofs.YtopoiinmhajhmaaDoor.X
open Go.RowKit Go.Proofs.YtopoiinmhajhmaaDoor.H Go.Proofs.YtopoiinmhajhmaaDoorW.PrintWords Go.Proofs.YtopoiinmhajhmaaDoorW.PrintLast Go.Proofs.YtopoiinmhajhmaaDoorW.PrintMore
attribute [local go_sem] max2_int min2_int max_two min_two max_three min_three max_four min_four   -- for this text's walks alone
set_option linter.unusedVariables false
set_option linter.unusedSimpArgs false

/-! ### slices_ContainsFunc_int_int: function 101 -/
theorem ContainsFunc_int.calls (g : Nat) (lb : Array Value) (p : Int → Bool) (A0 : Option Addr) (c0 : Nat) (l0 : List Int) (w : World)
    (eg : ∀ args w, (callFunc g args).run Tryd.prog w = .ok (.enter g args) w)
    (hp : ∀ W x, x ∈ l0 → Below w.heap.size w W → Calls Tryd.prog g (#[.int .i64 x] ++ lb) W fun e w' => e = .returned (.bool (p x)) ∧ Below w.heap.size w w')
    (hr0 : Kd.C (Kd.int .i64) w A0 l0.length l0) (hc0 : l0.length ≤ c0) :
    Calls Tryd.prog 101 #[.slice A0 l0.length c0, .func (.func g) #[] lb] w fun e w' => e = .returned (.bool (l0.any p)) ∧ Below w.heap.size w w' := by
  rw [← idxF_any p l0]
  go_enter Tryd.func101, Tryd.ntmps101
  go_wp2_with (go_at_call 124; refine (IndexFunc_int.calls g lb p A0 c0 l0 _ eg hp hr0 hc0).mono ?_; rintro e w' ⟨rfl, hb'⟩)
  go_ret
  exact ⟨rfl, hb'⟩

end Go.Proofs.YtopoiinmhajhmaaDoor.X
