-- Written by wip/xprint.py (this repo's program) over the kit's print; functions named in wip/hand are proved by hand.
import Derived.Test.YtfebloibnhejnaaXx0
import Derived.Test.YtfebloibnhejnaaWKept
import Derived.Test.YtfebloibnhejnaaWRepsOne
namespace Go.Proofs.Ytfebloibnhejnaa.X
open Go.RowKit Go.Proofs.Ytfebloibnhejnaa.H Go.Proofs.YtfebloibnhejnaaW.PrintWords Go.Proofs.YtfebloibnhejnaaW.PrintLast Go.Proofs.YtfebloibnhejnaaW.PrintMore
attribute [local go_sem] max2_int min2_int max_two min_two max_three min_three max_four min_four   -- for this text's walks alone
set_option linter.unusedVariables false
set_option linter.unusedSimpArgs false

/-! ### spec_GloNew: function 22 -/
def spec_GloNew.f : Option (List S49) := some [⟨[]⟩, ⟨[]⟩, ⟨[]⟩]
theorem spec_GloNew.calls (r : List S49) (w : World) (h : spec_GloNew.f = some r) :
    Calls Try.prog 22 #[] w fun e w' => ∃ v0_ : Value, e = .returned (v0_) ∧ Kd.R k49 49 w' w.heap.size (fun _ => True) v0_ r ∧ Below w.heap.size w w' := by
  obtain rfl := Option.some.inj h
  go_enter Try.func22, Try.ntmps22
  go_wp2
  go_ret
  have hM : ∀ w1 ok, Kd.M k49 w1 w.heap.size ok (⟨[]⟩ : S49) [.slice none 0 0] := fun w1 ok => k49_mkM _ _ _ (⟨[]⟩ : S49) (Kd.R_nil _ _ _ _ _)
  refine ⟨_, rfl, ⟨fun _ _ => trivial, [.slice none 0 0, .slice none 0 0, .slice none 0 0], ?_, Reps.one (hM _ _) (Reps.one (hM _ _) (Reps.one (hM _ _) (Reps.none _ _)))⟩, below_alloc (Below.refl _ _) _⟩
  exact World.ownsRow_lit w #[.slice none 0 0, .slice none 0 0, .slice none 0 0] 3 (Nat.le_refl _) (by decide) rfl

end Go.Proofs.Ytfebloibnhejnaa.X
