-- Written by this session's own program (wip/x/xprint.py, over the kit's printer); Lean checks it.
import Derived.Test.YtdedfkcnlbjbbaaDoorProg
import Derived.Below
import Derived.Deep.Draws
import Derived.Deep.AppendLies
import Derived.Maps.AppendAt
import Derived.OwnWalk
import Derived.Laws.BytesArg
import Derived.Laws.MakeOwn
import Derived.Laws.OwnMore
import Derived.Deep.OwnRows
import Derived.Tactics
import Derived.Lib.ConvBytes
import Derived.Laws.Slices
import Derived.WalkKit
import Derived.KernelRfl
import Derived.RowKit3
import Derived.Deep.LoopGhost
import Derived.Deep.QuietTactic
import Derived.BigQuiet
import Derived.WideLaws
import Derived.Deep.DeepCutAuto
import Derived.Deep.CutBlock
import Derived.Deep.RegionHeld3
import Derived.Laws.Rows
import Derived.Lib.AppendStr
import Derived.ArgAppend
import Derived.Laws.IdiomCopy
import Derived.OrdersHeld
import Derived.Laws.BitsLemmas
import Derived.RowKit
import Derived.Shelf.Abstract
import Derived.Shelf.Strings.SlTrimAscii
import Derived.Shelf.Lay
import Derived.Ground.NamesProg
import Derived.Lib.Agree
import Derived.KernelRfl
import Derived.Test.YtdedfkcnlbjbbaaDoorWWords
import Derived.Test.YtdedfkcnlbjbbaaDoorWLast
import Derived.Test.YtdedfkcnlbjbbaaDoorWTab
import Derived.Test.YtdedfkcnlbjbbaaDoorWFour
import Derived.Test.YtdedfkcnlbjbbaaDoorWQPut
import Derived.Test.YtdedfkcnlbjbbaaDoorWApart
import Derived.Test.YtdedfkcnlbjbbaaDoorWArr
import Derived.Test.YtdedfkcnlbjbbaaDoorWZeros
import Derived.Test.YtdedfkcnlbjbbaaDoorWFoot
import Derived.Test.YtdedfkcnlbjbbaaDoorWKept
import Derived.Test.YtdedfkcnlbjbbaaDoorWShare
import Derived.Test.YtdedfkcnlbjbbaaDoorWN
import Derived.Test.YtdedfkcnlbjbbaaDoorWFootNe
import Derived.Test.YtdedfkcnlbjbbaaDoorWAt
import Derived.Test.YtdedfkcnlbjbbaaDoorWEqStruct
import Derived.Test.YtdedfkcnlbjbbaaDoorWRepsOne
import Derived.Test.YtdedfkcnlbjbbaaDoorWInv
import Derived.Test.YtdedfkcnlbjbbaaDoorWInvWords
import Derived.Test.YtdedfkcnlbjbbaaDoorWGuard
import Derived.Test.YtdedfkcnlbjbbaaDoorWNEv
import Derived.Test.YtdedfkcnlbjbbaaDoorWMore
namespace Go.Proofs.YtdedfkcnlbjbbaaDoor.QFnExactPackBits
open Go.RowKit Go.Proofs.YtdedfkcnlbjbbaaDoorW.PrintWords Go.Proofs.YtdedfkcnlbjbbaaDoorW.PrintLast Go.Proofs.YtdedfkcnlbjbbaaDoorW.PrintMore
attribute [local go_sem] max2_int min2_int max_two min_two max_three min_three max_four min_four   -- for this text's walks alone
set_option linter.unusedVariables false
set_option linter.unusedSimpArgs false



def errW : Option Int → Value
  | none => .nilIface
  | some c => .iface 0 (.int .i64 c)
theorem errW_none : errW none = .nilIface := rfl
theorem errW_some (c : Int) : errW (some c) = .iface 0 (.int .i64 c) := rfl

theorem info5 : (Tryd.prog.info? 5).map (fun i => (i.zero, i.size, i.bytes)) = some (some (.int .u8 0), 1, 1) := by kernel_rfl
-- the values' own types

end Go.Proofs.YtdedfkcnlbjbbaaDoor.QFnExactPackBits
