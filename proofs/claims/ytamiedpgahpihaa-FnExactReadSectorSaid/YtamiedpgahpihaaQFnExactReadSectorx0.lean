-- Written by this session's own program (wip/x/xprint.py, over the kit's printer); Lean checks it.
import Derived.Test.YtamiedpgahpihaaProg
import Derived.Below
import Derived.Deep.Draws
import Derived.Deep.AppendLies
import Derived.Maps.AppendAt
import Derived.OwnWalk
import Derived.Laws.BytesArg
import Derived.Laws.MakeOwn
import Derived.Laws.OwnMore
import Derived.Deep.OwnRows
import Derived.Tactics
import Derived.Lib.ConvBytes
import Derived.Laws.Slices
import Derived.WalkKit
import Derived.KernelRfl
import Derived.RowKit3
import Derived.Deep.LoopGhost
import Derived.Deep.QuietTactic
import Derived.BigQuiet
import Derived.WideLaws
import Derived.Deep.DeepCutAuto
import Derived.Deep.CutBlock
import Derived.Deep.RegionHeld3
import Derived.Laws.Rows
import Derived.Lib.AppendStr
import Derived.ArgAppend
import Derived.Laws.IdiomCopy
import Derived.OrdersHeld
import Derived.Laws.BitsLemmas
import Derived.RowKit
import Derived.Shelf.Abstract
import Derived.Shelf.Strings.Repeat
import Derived.Shelf.Lay
import Derived.Ground.NamesProg
import Derived.Lib.Agree
import Derived.KernelRfl
import Derived.Test.YtamiedpgahpihaaWWords
import Derived.Test.YtamiedpgahpihaaWLast
import Derived.Test.YtamiedpgahpihaaWTab
import Derived.Test.YtamiedpgahpihaaWFour
import Derived.Test.YtamiedpgahpihaaWQPut
import Derived.Test.YtamiedpgahpihaaWApart
import Derived.Test.YtamiedpgahpihaaWArr
import Derived.Test.YtamiedpgahpihaaWZeros
import Derived.Test.YtamiedpgahpihaaWFoot
import Derived.Test.YtamiedpgahpihaaWKept
import Derived.Test.YtamiedpgahpihaaWShare
import Derived.Test.YtamiedpgahpihaaWN
import Derived.Test.YtamiedpgahpihaaWFootNe
import Derived.Test.YtamiedpgahpihaaWAt
import Derived.Test.YtamiedpgahpihaaWEqStruct
import Derived.Test.YtamiedpgahpihaaWRepsOne
import Derived.Test.YtamiedpgahpihaaWInv
import Derived.Test.YtamiedpgahpihaaWInvWords
import Derived.Test.YtamiedpgahpihaaWGuard
import Derived.Test.YtamiedpgahpihaaWNEv
import Derived.Test.YtamiedpgahpihaaWMore
namespace Go.Proofs.Ytamiedpgahpihaa.QFnExactReadSector
open Go.RowKit Go.Proofs.YtamiedpgahpihaaW.PrintWords Go.Proofs.YtamiedpgahpihaaW.PrintLast Go.Proofs.YtamiedpgahpihaaW.PrintMore
attribute [local go_sem] max2_int min2_int max_two min_two max_three min_three max_four min_four   -- for this text's walks alone
set_option linter.unusedVariables false
set_option linter.unusedSimpArgs false



def errW : Option Int → Value
  | none => .nilIface
  | some c => .iface 0 (.int .i64 c)
theorem errW_none : errW none = .nilIface := rfl
theorem errW_some (c : Int) : errW (some c) = .iface 0 (.int .i64 c) := rfl

theorem info5 : (Try.prog.info? 5).map (fun i => (i.zero, i.size, i.bytes)) = some (some (.int .u8 0), 1, 1) := by kernel_rfl
-- the values' own types

end Go.Proofs.Ytamiedpgahpihaa.QFnExactReadSector
