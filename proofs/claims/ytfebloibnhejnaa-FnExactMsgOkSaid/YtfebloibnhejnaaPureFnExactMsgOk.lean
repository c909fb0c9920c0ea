/- FnExactMsgOk returns true: the program's MsgOk is the reference's. No conditions. -/
import Derived.Test.YtfebloibnhejnaaXxf12
import Derived.Test.YtfebloibnhejnaaXxf15
import Derived.Test.YtfebloibnhejnaaXxf6
import Derived.Test.YtfebloibnhejnaaXxpmsg
namespace Go.Proofs.Ytfebloibnhejnaa.Pure
open Go.RowKit Go.Proofs.Ytfebloibnhejnaa.H Go.Proofs.Ytfebloibnhejnaa.X Go.Proofs.YtfebloibnhejnaaW.PrintWords Go.Proofs.YtfebloibnhejnaaW.PrintLast Go.Proofs.YtfebloibnhejnaaW.PrintMore
set_option linter.unusedVariables false
theorem FnExactMsgOk (x0_0 : Int) (x0_1 : Int) (x0_2 : Int) (x0_3 : Int) (x0_4_0 : Int) (x0_4_1 : Int) (x0_4_2 : Int) (x0_4_3 : Int) (x0_4_4 : Int) (x0_4_5 : Int) (x0_4_6 : Int)
    (ok0 : (Lit.int .i64 x0_0).wf = true ∧ (Lit.int .i64 x0_1).wf = true ∧ (Lit.int .i64 x0_2).wf = true ∧ (Lit.int .i64 x0_3).wf = true ∧ ((Lit.int .i64 x0_4_0).wf = true ∧ (Lit.int .i64 x0_4_1).wf = true ∧ (Lit.int .i64 x0_4_2).wf = true ∧ (Lit.int .i64 x0_4_3).wf = true ∧ (Lit.int .i64 x0_4_4).wf = true ∧ (Lit.int .i64 x0_4_5).wf = true ∧ (Lit.int .i64 x0_4_6).wf = true)) :
    ∃ k, laws_FnExactMsgOk.f k x0_0 x0_1 x0_2 x0_3 x0_4_0 x0_4_1 x0_4_2 x0_4_3 x0_4_4 x0_4_5 x0_4_6 = some true := by
  refine ⟨2, ?_⟩
  unfold laws_FnExactMsgOk.f laws_toMsgMsg.f laws_toOpOp.f
  simp only [Option.bind_some, specMsgOk_f _ _ _ _ _ _ _ _ _ _ _ 2 (Nat.le_refl _), implMsgOk_f _ _ _ _ _ _ _ _ _ _ _ 2 (by decide)]
  simp
end Go.Proofs.Ytfebloibnhejnaa.Pure
