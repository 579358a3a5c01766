-- Written by this session's own program (wip/x/xprint.py, over the kit's printer); Lean checks it.
import Derived.Test.YtgklbcgocgomdaaProg
import Derived.Below
import Derived.Deep.Draws
import Derived.Deep.AppendLies
import Derived.Maps.AppendAt
import Derived.OwnWalk
import Derived.Laws.BytesArg
import Derived.Laws.MakeOwn
import Derived.Laws.OwnMore
import Derived.Deep.OwnRows
import Derived.Tactics
import Derived.Lib.ConvBytes
import Derived.Laws.Slices
import Derived.WalkKit
import Derived.KernelRfl
import Derived.RowKit3
import Derived.Deep.LoopGhost
import Derived.Deep.QuietTactic
import Derived.BigQuiet
import Derived.WideLaws
import Derived.Deep.DeepCutAuto
import Derived.Deep.CutBlock
import Derived.Deep.RegionHeld3
import Derived.Laws.Rows
import Derived.Lib.AppendStr
import Derived.ArgAppend
import Derived.Laws.IdiomCopy
import Derived.OrdersHeld
import Derived.Laws.BitsLemmas
import Derived.RowKit
import Derived.Shelf.Abstract
import Derived.Shelf.Strings.Repeat
import Derived.Shelf.Lay
import Derived.Ground.NamesProg
import Derived.Lib.Agree
import Derived.KernelRfl
import Derived.BigCall
import Derived.Lib.ConvBytes
import Derived.Deep.Cut
import Derived.Deep.RegionWith
import Derived.Test.YtgklbcgocgomdaaWWords
import Derived.Test.YtgklbcgocgomdaaWLast
import Derived.Test.YtgklbcgocgomdaaWTab
import Derived.Test.YtgklbcgocgomdaaWFour
import Derived.Test.YtgklbcgocgomdaaWQPut
import Derived.Test.YtgklbcgocgomdaaWApart
import Derived.Test.YtgklbcgocgomdaaWArr
import Derived.Test.YtgklbcgocgomdaaWZeros
import Derived.Test.YtgklbcgocgomdaaWFoot
import Derived.Test.YtgklbcgocgomdaaWKept
import Derived.Test.YtgklbcgocgomdaaWShare
import Derived.Test.YtgklbcgocgomdaaWN
import Derived.Test.YtgklbcgocgomdaaWFootNe
import Derived.Test.YtgklbcgocgomdaaWAt
import Derived.Test.YtgklbcgocgomdaaWEqStruct
import Derived.Test.YtgklbcgocgomdaaWRepsOne
import Derived.Test.YtgklbcgocgomdaaWInv
import Derived.Test.YtgklbcgocgomdaaWInvWords
import Derived.Test.YtgklbcgocgomdaaWGuard
import Derived.Test.YtgklbcgocgomdaaWNEv
import Derived.Test.YtgklbcgocgomdaaWMore
namespace Go.Proofs.Ytgklbcgocgomdaa.QFnSectors
open Go.RowKit Go.Proofs.YtgklbcgocgomdaaW.PrintWords Go.Proofs.YtgklbcgocgomdaaW.PrintLast Go.Proofs.YtgklbcgocgomdaaW.PrintMore
attribute [local go_sem] max2_int min2_int max_two min_two max_three min_three max_four min_four   -- for this text's walks alone
set_option linter.unusedVariables false
set_option linter.unusedSimpArgs false



def errW : Option Int → Value
  | none => .nilIface
  | some c => .iface 0 (.int .i64 c)
theorem errW_none : errW none = .nilIface := rfl
theorem errW_some (c : Int) : errW (some c) = .iface 0 (.int .i64 c) := rfl

theorem info3 : (Try.prog.info? 3).map (fun i => (i.zero, i.size, i.bytes)) = some (some (.int .i64 0), 1, 8) := by kernel_rfl
theorem info5 : (Try.prog.info? 5).map (fun i => (i.zero, i.size, i.bytes)) = some (some (.int .u8 0), 1, 1) := by kernel_rfl
theorem info9 : (Try.prog.info? 9).map (fun i => (i.zero, i.size, i.bytes)) = some (some (.string ⟨#[]⟩), 1, 16) := by kernel_rfl
-- the values' own types

end Go.Proofs.Ytgklbcgocgomdaa.QFnSectors
