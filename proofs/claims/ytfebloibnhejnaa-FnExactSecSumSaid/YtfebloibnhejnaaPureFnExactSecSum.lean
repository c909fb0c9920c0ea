/- SecSum of the program is SecSum of the reference for every int: FnExactSecSum returns true. No conditions. -/
import Derived.Test.YtfebloibnhejnaaPFnExactSecSumx1
namespace Go.Proofs.Ytfebloibnhejnaa.Pure
open Go.RowKit Go.Proofs.Ytfebloibnhejnaa.PFnExactSecSum Go.Proofs.YtfebloibnhejnaaW.PrintWords Go.Proofs.YtfebloibnhejnaaW.PrintLast

/-- YOURS: ∀ (a0 : Int), (Lit.int .i64 a0).wf = true → laws_FnExactSecSum.f a0 = some true
What it reaches (each with k first where it has rounds; `.mono`: more rounds tell the same; `.l0`, ..: its loops, with `.mono_l`): spec_l1In.f, spec_SecSum.f, impl_in.f, impl_SecSum.f, laws_FnExactSecSum.f -/
theorem FnExactSecSum : laws_FnExactSecSum.Pure := by
  intro a0 _
  unfold laws_FnExactSecSum.f spec_SecSum.f impl_SecSum.f spec_l1In.f impl_in.f
  rw [Int.mul_comm 7919 a0]
  by_cases h1 : a0 ≥ 0
  · rw [if_pos h1]
    by_cases h2 : a0 ≤ 99
    · simp [h2]
    · simp [h2]
  · rw [if_neg h1]
    simp

end Go.Proofs.Ytfebloibnhejnaa.Pure
