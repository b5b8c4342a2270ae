-- own text, written by wip/tools/pp.py
import Derived.Test.YtfpdccaomhjpjaaProg
import Derived.Below
import Derived.Deep.Draws
import Derived.Deep.AppendLies
import Derived.Maps.AppendAt
import Derived.OwnWalk
import Derived.Laws.BytesArg
import Derived.Laws.MakeOwn
import Derived.Laws.OwnMore
import Derived.Deep.OwnRows
import Derived.Tactics
import Derived.Lib.ConvBytes
import Derived.Laws.Slices
import Derived.WalkKit
import Derived.KernelRfl
import Derived.RowKit3
import Derived.Deep.LoopGhost
import Derived.Deep.QuietTactic
import Derived.BigQuiet
import Derived.WideLaws
import Derived.Deep.DeepCutAuto
import Derived.Deep.CutBlock
import Derived.Deep.RegionHeld3
import Derived.Laws.Rows
import Derived.Lib.AppendStr
import Derived.ArgAppend
import Derived.Laws.IdiomCopy
import Derived.OrdersHeld
import Derived.Laws.BitsLemmas
import Derived.RowKit
import Derived.WalkSpells
import Derived.Test.YtfpdccaomhjpjaaWWords
import Derived.Test.YtfpdccaomhjpjaaWLast
import Derived.Test.YtfpdccaomhjpjaaWTab
import Derived.Test.YtfpdccaomhjpjaaWQPut
import Derived.Test.YtfpdccaomhjpjaaWApart
import Derived.Test.YtfpdccaomhjpjaaWArr
import Derived.Test.YtfpdccaomhjpjaaWZeros
import Derived.Test.YtfpdccaomhjpjaaWFoot
import Derived.Test.YtfpdccaomhjpjaaWKept
import Derived.Test.YtfpdccaomhjpjaaWShare
import Derived.Test.YtfpdccaomhjpjaaWN
import Derived.Test.YtfpdccaomhjpjaaWGuard
import Derived.Test.YtfpdccaomhjpjaaWNEv
import Derived.Test.YtfpdccaomhjpjaaWMore
namespace Go.Proofs.Ytfpdccaomhjpjaa.PSGuestOk
open Go.RowKit Go.Proofs.YtfpdccaomhjpjaaW.PrintWords Go.Proofs.YtfpdccaomhjpjaaW.PrintLast Go.Proofs.YtfpdccaomhjpjaaW.PrintMore
attribute [local go_sem] max2_int min2_int max_two min_two max_three min_three max_four min_four   -- for this text's walks alone
set_option linter.unusedVariables false
set_option linter.unusedSimpArgs false



def errW : Option Int → Value
  | none => .nilIface
  | some c => .iface 0 (.int .i64 c)
theorem errW_none : errW none = .nilIface := rfl
theorem errW_some (c : Int) : errW (some c) = .iface 0 (.int .i64 c) := rfl

-- the values' own types

end Go.Proofs.Ytfpdccaomhjpjaa.PSGuestOk
