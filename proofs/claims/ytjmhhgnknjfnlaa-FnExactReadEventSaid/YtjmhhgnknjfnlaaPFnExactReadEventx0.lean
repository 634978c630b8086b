-- written by a program of this claim's
import Derived.Test.YtjmhhgnknjfnlaaProg
import Derived.Below
import Derived.Deep.Draws
import Derived.Deep.AppendLies
import Derived.Maps.AppendAt
import Derived.OwnWalk
import Derived.Laws.BytesArg
import Derived.Laws.MakeOwn
import Derived.Laws.OwnMore
import Derived.Deep.OwnRows
import Derived.Tactics
import Derived.Lib.ConvBytes
import Derived.Laws.Slices
import Derived.WalkKit
import Derived.KernelRfl
import Derived.RowKit3
import Derived.Deep.LoopGhost
import Derived.Deep.QuietTactic
import Derived.BigQuiet
import Derived.WideLaws
import Derived.Deep.DeepCutAuto
import Derived.Deep.CutBlock
import Derived.Deep.RegionHeld3
import Derived.Laws.Rows
import Derived.Lib.AppendStr
import Derived.ArgAppend
import Derived.Laws.IdiomCopy
import Derived.OrdersHeld
import Derived.Laws.BitsLemmas
import Derived.RowKit
import Derived.Test.YtjmhhgnknjfnlaaWWords
import Derived.Test.YtjmhhgnknjfnlaaWLast
import Derived.Test.YtjmhhgnknjfnlaaWTab
import Derived.Test.YtjmhhgnknjfnlaaWFour
import Derived.Test.YtjmhhgnknjfnlaaWQPut
import Derived.Test.YtjmhhgnknjfnlaaWApart
import Derived.Test.YtjmhhgnknjfnlaaWArr
import Derived.Test.YtjmhhgnknjfnlaaWZeros
import Derived.Test.YtjmhhgnknjfnlaaWFoot
import Derived.Test.YtjmhhgnknjfnlaaWKept
import Derived.Test.YtjmhhgnknjfnlaaWShare
import Derived.Test.YtjmhhgnknjfnlaaWN
import Derived.Test.YtjmhhgnknjfnlaaWFootNe
import Derived.Test.YtjmhhgnknjfnlaaWAt
import Derived.Test.YtjmhhgnknjfnlaaWEqStruct
import Derived.Test.YtjmhhgnknjfnlaaWRepsOne
import Derived.Test.YtjmhhgnknjfnlaaWInv
import Derived.Test.YtjmhhgnknjfnlaaWInvWords
import Derived.Test.YtjmhhgnknjfnlaaWGuard
import Derived.Test.YtjmhhgnknjfnlaaWNEv
import Derived.Test.YtjmhhgnknjfnlaaWMore
import Derived.Test.YtjmhhgnknjfnlaaMine
namespace Go.Proofs.Ytjmhhgnknjfnlaa.PFnExactReadEvent
open Go.RowKit Go.Proofs.YtjmhhgnknjfnlaaW.PrintWords Go.Proofs.YtjmhhgnknjfnlaaW.PrintLast Go.Proofs.YtjmhhgnknjfnlaaW.PrintMore
attribute [local go_sem] max2_int min2_int max_two min_two max_three min_three max_four min_four   -- for this text's walks alone
set_option linter.unusedVariables false
set_option linter.unusedSimpArgs false



def errW : Option Int → Value
  | none => .nilIface
  | some c => .iface 0 (.int .i64 c)
theorem errW_none : errW none = .nilIface := rfl
theorem errW_some (c : Int) : errW (some c) = .iface 0 (.int .i64 c) := rfl

theorem info5 : (Try.prog.info? 5).map (fun i => (i.zero, i.size, i.bytes)) = some (some (.int .u8 0), 1, 1) := by kernel_rfl
theorem info9 : (Try.prog.info? 9).map (fun i => (i.zero, i.size, i.bytes)) = some (some (.string ⟨#[]⟩), 1, 16) := by kernel_rfl
-- the values' own types

end Go.Proofs.Ytjmhhgnknjfnlaa.PFnExactReadEvent
