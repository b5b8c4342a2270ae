-- own text, written by wip/tools/pp.py
import Derived.Test.YtekneicikmaplaaProg
import Derived.Below
import Derived.Deep.Draws
import Derived.Deep.AppendLies
import Derived.Maps.AppendAt
import Derived.OwnWalk
import Derived.Laws.BytesArg
import Derived.Laws.MakeOwn
import Derived.Laws.OwnMore
import Derived.Deep.OwnRows
import Derived.Tactics
import Derived.Lib.ConvBytes
import Derived.Laws.Slices
import Derived.WalkKit
import Derived.KernelRfl
import Derived.RowKit3
import Derived.Deep.LoopGhost
import Derived.Deep.QuietTactic
import Derived.BigQuiet
import Derived.WideLaws
import Derived.Deep.DeepCutAuto
import Derived.Deep.CutBlock
import Derived.Deep.RegionHeld3
import Derived.Laws.Rows
import Derived.Lib.AppendStr
import Derived.ArgAppend
import Derived.Laws.IdiomCopy
import Derived.OrdersHeld
import Derived.Laws.BitsLemmas
import Derived.RowKit
import Derived.WalkSpells
import Derived.Test.YtekneicikmaplaaRow
import Derived.Test.YtekneicikmaplaaWWords
import Derived.Test.YtekneicikmaplaaWLast
import Derived.Test.YtekneicikmaplaaWTab
import Derived.Test.YtekneicikmaplaaWFour
import Derived.Test.YtekneicikmaplaaWQPut
import Derived.Test.YtekneicikmaplaaWApart
import Derived.Test.YtekneicikmaplaaWArr
import Derived.Test.YtekneicikmaplaaWZeros
import Derived.Test.YtekneicikmaplaaWFoot
import Derived.Test.YtekneicikmaplaaWKept
import Derived.Test.YtekneicikmaplaaWShare
import Derived.Test.YtekneicikmaplaaWN
import Derived.Test.YtekneicikmaplaaWFootNe
import Derived.Test.YtekneicikmaplaaWAt
import Derived.Test.YtekneicikmaplaaWEqStruct
import Derived.Test.YtekneicikmaplaaWRepsOne
import Derived.Test.YtekneicikmaplaaWInv
import Derived.Test.YtekneicikmaplaaWInvWords
import Derived.Test.YtekneicikmaplaaWGuard
import Derived.Test.YtekneicikmaplaaWNEv
import Derived.Test.YtekneicikmaplaaWMore
namespace Go.Proofs.Ytekneicikmaplaa.PFnExactBookOpen
open Go.RowKit Go.Proofs.YtekneicikmaplaaW.PrintWords Go.Proofs.YtekneicikmaplaaW.PrintLast Go.Proofs.YtekneicikmaplaaW.PrintMore
attribute [local go_sem] max2_int min2_int max_two min_two max_three min_three max_four min_four   -- for this text's walks alone
set_option linter.unusedVariables false
set_option linter.unusedSimpArgs false



def errW : Option Int → Value
  | none => .nilIface
  | some c => .iface 0 (.int .i64 c)
theorem errW_none : errW none = .nilIface := rfl
theorem errW_some (c : Int) : errW (some c) = .iface 0 (.int .i64 c) := rfl

theorem info3 : (Try.prog.info? 3).map (fun i => (i.zero, i.size, i.bytes)) = some (some (.int .i64 0), 1, 8) := by kernel_rfl
-- the values' own types

end Go.Proofs.Ytekneicikmaplaa.PFnExactBookOpen
