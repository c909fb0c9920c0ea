/- FnExactOpOk returns true: the program's OpOk is the reference's. No conditions. -/
import Derived.Test.YtfebloibnhejnaaXxf12
import Derived.Test.YtfebloibnhejnaaXxf13
import Derived.Test.YtfebloibnhejnaaXxf5
import Derived.Test.YtfebloibnhejnaaXxpop
namespace Go.Proofs.Ytfebloibnhejnaa.Pure
open Go.RowKit Go.Proofs.Ytfebloibnhejnaa.H Go.Proofs.Ytfebloibnhejnaa.X Go.Proofs.YtfebloibnhejnaaW.PrintWords Go.Proofs.YtfebloibnhejnaaW.PrintLast Go.Proofs.YtfebloibnhejnaaW.PrintMore
set_option linter.unusedVariables false
theorem FnExactOpOk (x0_0 : Int) (x0_1 : Int) (x0_2 : Int) (x0_3 : Int) (x0_4 : Int) (x0_5 : Int) (x0_6 : Int)
    (ok0 : (Lit.int .i64 x0_0).wf = true ∧ (Lit.int .i64 x0_1).wf = true ∧ (Lit.int .i64 x0_2).wf = true ∧ (Lit.int .i64 x0_3).wf = true ∧ (Lit.int .i64 x0_4).wf = true ∧ (Lit.int .i64 x0_5).wf = true ∧ (Lit.int .i64 x0_6).wf = true) :
    ∃ k, laws_FnExactOpOk.f k x0_0 x0_1 x0_2 x0_3 x0_4 x0_5 x0_6 = some true := by
  refine ⟨2, ?_⟩
  unfold laws_FnExactOpOk.f laws_toOpOp.f impl_OpOk.f
  simp only [Option.bind_some, specOpOk_f _ _ _ _ _ _ _ 2 (Nat.le_refl _)]
  simp
end Go.Proofs.Ytfebloibnhejnaa.Pure
