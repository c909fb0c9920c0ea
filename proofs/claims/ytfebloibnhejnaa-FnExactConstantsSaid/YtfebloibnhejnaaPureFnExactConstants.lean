/- The exported constants of the program have the values of the document: FnExactConstants returns true. No conditions. -/
import Derived.Test.YtfebloibnhejnaaPFnExactConstantsx1
namespace Go.Proofs.Ytfebloibnhejnaa.Pure
open Go.RowKit Go.Proofs.Ytfebloibnhejnaa.PFnExactConstants Go.Proofs.YtfebloibnhejnaaW.PrintWords Go.Proofs.YtfebloibnhejnaaW.PrintLast

/-- YOURS: laws_FnExactConstants.f  = some true
What it reaches (each with k first where it has rounds; `.mono`: more rounds tell the same; `.l0`, ..: its loops, with `.mono_l`): laws_FnExactConstants.f -/
theorem FnExactConstants : laws_FnExactConstants.Pure := by
  rfl

end Go.Proofs.Ytfebloibnhejnaa.Pure
