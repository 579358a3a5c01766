-- PRINTED BY print.sh 35421559b90ae4d0a3588c463048766b98c2df88dd9212a6774a882060cdf62d: not written by this session
import Derived.Test.YtghbmflbkpaohaaProg
import Derived.Below
import Derived.Deep.Draws
import Derived.Deep.AppendLies
import Derived.Maps.AppendAt
import Derived.OwnWalk
import Derived.Laws.BytesArg
import Derived.Laws.MakeOwn
import Derived.Laws.OwnMore
import Derived.Deep.OwnRows
import Derived.Tactics
import Derived.Lib.ConvBytes
import Derived.Laws.Slices
import Derived.WalkKit
import Derived.KernelRfl
import Derived.RowKit3
import Derived.Deep.LoopGhost
import Derived.Deep.QuietTactic
import Derived.BigQuiet
import Derived.WideLaws
import Derived.Deep.DeepCutAuto
import Derived.Deep.CutBlock
import Derived.Deep.RegionHeld3
import Derived.Laws.Rows
import Derived.Lib.AppendStr
import Derived.ArgAppend
import Derived.Laws.IdiomCopy
import Derived.OrdersHeld
import Derived.Laws.BitsLemmas
import Derived.RowKit
import Derived.Test.YtghbmflbkpaohaaWWords
import Derived.Test.YtghbmflbkpaohaaWLast
import Derived.Test.YtghbmflbkpaohaaWTab
import Derived.Test.YtghbmflbkpaohaaWFour
import Derived.Test.YtghbmflbkpaohaaWQPut
import Derived.Test.YtghbmflbkpaohaaWApart
import Derived.Test.YtghbmflbkpaohaaWArr
import Derived.Test.YtghbmflbkpaohaaWZeros
import Derived.Test.YtghbmflbkpaohaaWFoot
import Derived.Test.YtghbmflbkpaohaaWKept
import Derived.Test.YtghbmflbkpaohaaWShare
import Derived.Test.YtghbmflbkpaohaaWN
import Derived.Test.YtghbmflbkpaohaaWFootNe
import Derived.Test.YtghbmflbkpaohaaWAt
import Derived.Test.YtghbmflbkpaohaaWEqStruct
import Derived.Test.YtghbmflbkpaohaaWRepsOne
import Derived.Test.YtghbmflbkpaohaaWInv
import Derived.Test.YtghbmflbkpaohaaWInvWords
import Derived.Test.YtghbmflbkpaohaaWGuard
import Derived.Test.YtghbmflbkpaohaaWNEv
import Derived.Test.YtghbmflbkpaohaaWMore
namespace Go.Proofs.Ytghbmflbkpaohaa.PFnExactReadVarint
open Go.RowKit Go.Proofs.YtghbmflbkpaohaaW.PrintWords Go.Proofs.YtghbmflbkpaohaaW.PrintLast Go.Proofs.YtghbmflbkpaohaaW.PrintMore
attribute [local go_sem] max2_int min2_int max_two min_two max_three min_three max_four min_four   -- for this text's walks alone
set_option linter.unusedVariables false
set_option linter.unusedSimpArgs false



def errW : Option Int → Value
  | none => .nilIface
  | some c => .iface 0 (.int .i64 c)
theorem errW_none : errW none = .nilIface := rfl
theorem errW_some (c : Int) : errW (some c) = .iface 0 (.int .i64 c) := rfl

theorem info5 : (Try.prog.info? 5).map (fun i => (i.zero, i.size, i.bytes)) = some (some (.int .u8 0), 1, 1) := by kernel_rfl
-- the values' own types

end Go.Proofs.Ytghbmflbkpaohaa.PFnExactReadVarint
