-- PRINTED BY print.sh 35421559b90ae4d0a3588c463048766b98c2df88dd9212a6774a882060cdf62d: not written by this session
import Derived.Test.YtfebloibnhejnaaProg
import Derived.Below
import Derived.Deep.Draws
import Derived.Deep.AppendLies
import Derived.Maps.AppendAt
import Derived.OwnWalk
import Derived.Laws.BytesArg
import Derived.Laws.MakeOwn
import Derived.Laws.OwnMore
import Derived.Deep.OwnRows
import Derived.Tactics
import Derived.Lib.ConvBytes
import Derived.Laws.Slices
import Derived.WalkKit
import Derived.KernelRfl
import Derived.RowKit3
import Derived.Deep.LoopGhost
import Derived.Deep.QuietTactic
import Derived.BigQuiet
import Derived.WideLaws
import Derived.Deep.DeepCutAuto
import Derived.Deep.CutBlock
import Derived.Deep.RegionHeld3
import Derived.Laws.Rows
import Derived.Lib.AppendStr
import Derived.ArgAppend
import Derived.Laws.IdiomCopy
import Derived.OrdersHeld
import Derived.Laws.BitsLemmas
import Derived.RowKit
import Derived.Test.YtfebloibnhejnaaWWords
import Derived.Test.YtfebloibnhejnaaWLast
import Derived.Test.YtfebloibnhejnaaWTab
import Derived.Test.YtfebloibnhejnaaWFour
import Derived.Test.YtfebloibnhejnaaWQPut
import Derived.Test.YtfebloibnhejnaaWApart
import Derived.Test.YtfebloibnhejnaaWArr
import Derived.Test.YtfebloibnhejnaaWZeros
import Derived.Test.YtfebloibnhejnaaWFoot
import Derived.Test.YtfebloibnhejnaaWKept
import Derived.Test.YtfebloibnhejnaaWShare
import Derived.Test.YtfebloibnhejnaaWN
import Derived.Test.YtfebloibnhejnaaWFootNe
import Derived.Test.YtfebloibnhejnaaWAt
import Derived.Test.YtfebloibnhejnaaWEqStruct
import Derived.Test.YtfebloibnhejnaaWRepsOne
import Derived.Test.YtfebloibnhejnaaWInv
import Derived.Test.YtfebloibnhejnaaWInvWords
import Derived.Test.YtfebloibnhejnaaWGuard
import Derived.Test.YtfebloibnhejnaaWNEv
import Derived.Test.YtfebloibnhejnaaWMore
namespace Go.Proofs.Ytfebloibnhejnaa.PFnExactSecSum
open Go.RowKit Go.Proofs.YtfebloibnhejnaaW.PrintWords Go.Proofs.YtfebloibnhejnaaW.PrintLast Go.Proofs.YtfebloibnhejnaaW.PrintMore
attribute [local go_sem] max2_int min2_int max_two min_two max_three min_three max_four min_four   -- for this text's walks alone
set_option linter.unusedVariables false
set_option linter.unusedSimpArgs false



def errW : Option Int → Value
  | none => .nilIface
  | some c => .iface 0 (.int .i64 c)
theorem errW_none : errW none = .nilIface := rfl
theorem errW_some (c : Int) : errW (some c) = .iface 0 (.int .i64 c) := rfl

-- the values' own types

end Go.Proofs.Ytfebloibnhejnaa.PFnExactSecSum
