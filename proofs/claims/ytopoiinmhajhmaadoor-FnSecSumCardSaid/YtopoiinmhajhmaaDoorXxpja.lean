-- Written by wip/xprint.py (this repo's program) over the kit's print; functions named in wip/hand are proved by hand.
import Derived.Test.YtopoiinmhajhmaaDoorXx0
import Derived.Test.YtopoiinmhajhmaaDoorXxf66
import Derived.Test.YtopoiinmhajhmaaDoorXxf67
import Derived.Test.YtopoiinmhajhmaaDoorXxf22
import Derived.Test.YtopoiinmhajhmaaDoorXxf18
namespace Go.Proofs.YtopoiinmhajhmaaDoor.X
open Go.RowKit Go.Proofs.YtopoiinmhajhmaaDoor.H Go.Proofs.YtopoiinmhajhmaaDoorW.PrintWords Go.Proofs.YtopoiinmhajhmaaDoorW.PrintLast Go.Proofs.YtopoiinmhajhmaaDoorW.PrintMore
attribute [local go_sem] max2_int min2_int max_two min_two max_three min_three max_four min_four   -- for this text's walks alone
set_option linter.unusedVariables false
set_option linter.unusedSimpArgs false

/-! ### PLAIN ja -/
theorem jaOk_f : laws_jaOk.f = some true := by
  unfold laws_jaOk.f impl_WrtOk.f impl_keyOk.f impl_valOk.f
  rfl

end Go.Proofs.YtopoiinmhajhmaaDoor.X
