/- FnExactGloNew returns true: the program's GloNew is the reference's, and each call's memory is its own. No conditions. -/
import Derived.Test.YtfebloibnhejnaaXxf8
namespace Go.Proofs.Ytfebloibnhejnaa.Pure
open Go.RowKit Go.Proofs.Ytfebloibnhejnaa.H Go.Proofs.Ytfebloibnhejnaa.X Go.Proofs.YtfebloibnhejnaaW.PrintWords Go.Proofs.YtfebloibnhejnaaW.PrintLast Go.Proofs.YtfebloibnhejnaaW.PrintMore
set_option linter.unusedVariables false
theorem FnExactGloNew : laws_FnExactGloNew.Pure := ⟨8, by kernel_rfl⟩
end Go.Proofs.Ytfebloibnhejnaa.Pure
