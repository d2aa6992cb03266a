-- Laid by a program of this session (mkprint.py: the print with hand-written contracts beside).
import Derived.Test.YtjdcnpgemlhdfaaProg
import Derived.Below
import Derived.Deep.Draws
import Derived.Deep.AppendLies
import Derived.Maps.AppendAt
import Derived.OwnWalk
import Derived.Laws.BytesArg
import Derived.Laws.MakeOwn
import Derived.Laws.OwnMore
import Derived.Deep.OwnRows
import Derived.Tactics
import Derived.Lib.ConvBytes
import Derived.Laws.Slices
import Derived.WalkKit
import Derived.KernelRfl
import Derived.RowKit3
import Derived.Deep.LoopGhost
import Derived.Deep.QuietTactic
import Derived.BigQuiet
import Derived.WideLaws
import Derived.Deep.DeepCutAuto
import Derived.Deep.CutBlock
import Derived.Deep.RegionHeld3
import Derived.Laws.Rows
import Derived.Lib.AppendStr
import Derived.ArgAppend
import Derived.Laws.IdiomCopy
import Derived.OrdersHeld
import Derived.Laws.BitsLemmas
import Derived.RowKit
import Derived.Lib.Strings
import Derived.Lib.Slices
import Derived.Lib.Walk
import Derived.Lib.Bytealg
import Derived.Test.YtjdcnpgemlhdfaaWWords
import Derived.Test.YtjdcnpgemlhdfaaWLast
import Derived.Test.YtjdcnpgemlhdfaaWTab
import Derived.Test.YtjdcnpgemlhdfaaWFour
import Derived.Test.YtjdcnpgemlhdfaaWQPut
import Derived.Test.YtjdcnpgemlhdfaaWApart
import Derived.Test.YtjdcnpgemlhdfaaWArr
import Derived.Test.YtjdcnpgemlhdfaaWZeros
import Derived.Test.YtjdcnpgemlhdfaaWFoot
import Derived.Test.YtjdcnpgemlhdfaaWKept
import Derived.Test.YtjdcnpgemlhdfaaWShare
import Derived.Test.YtjdcnpgemlhdfaaWN
import Derived.Test.YtjdcnpgemlhdfaaWFootNe
import Derived.Test.YtjdcnpgemlhdfaaWAt
import Derived.Test.YtjdcnpgemlhdfaaWEqStruct
import Derived.Test.YtjdcnpgemlhdfaaWRepsOne
import Derived.Test.YtjdcnpgemlhdfaaWInv
import Derived.Test.YtjdcnpgemlhdfaaWInvWords
import Derived.Test.YtjdcnpgemlhdfaaWGuard
import Derived.Test.YtjdcnpgemlhdfaaWNEv
import Derived.Test.YtjdcnpgemlhdfaaWMore
namespace Go.Proofs.Ytjdcnpgemlhdfaa.PJohabParts
open Go.RowKit Go.Proofs.YtjdcnpgemlhdfaaW.PrintWords Go.Proofs.YtjdcnpgemlhdfaaW.PrintLast Go.Proofs.YtjdcnpgemlhdfaaW.PrintMore
attribute [local go_sem] max2_int min2_int max_two min_two max_three min_three max_four min_four   -- for this text's walks alone
set_option linter.unusedVariables false
set_option linter.unusedSimpArgs false



def errW : Option Int → Value
  | none => .nilIface
  | some c => .iface 0 (.int .i64 c)
theorem errW_none : errW none = .nilIface := rfl
theorem errW_some (c : Int) : errW (some c) = .iface 0 (.int .i64 c) := rfl

theorem info5 : (Try.prog.info? 5).map (fun i => (i.zero, i.size, i.bytes)) = some (some (.int .u8 0), 1, 1) := by kernel_rfl
-- the values' own types

end Go.Proofs.Ytjdcnpgemlhdfaa.PJohabParts
