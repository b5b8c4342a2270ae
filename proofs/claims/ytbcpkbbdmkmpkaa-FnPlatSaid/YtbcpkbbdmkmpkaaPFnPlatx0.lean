-- own text, written by wip/tools/pp.py
import Derived.Test.YtbcpkbbdmkmpkaaProg
import Derived.Below
import Derived.Deep.Draws
import Derived.Deep.AppendLies
import Derived.Maps.AppendAt
import Derived.OwnWalk
import Derived.Laws.BytesArg
import Derived.Laws.MakeOwn
import Derived.Laws.OwnMore
import Derived.Deep.OwnRows
import Derived.Tactics
import Derived.Lib.ConvBytes
import Derived.Laws.Slices
import Derived.WalkKit
import Derived.KernelRfl
import Derived.RowKit3
import Derived.Deep.LoopGhost
import Derived.Deep.QuietTactic
import Derived.BigQuiet
import Derived.WideLaws
import Derived.Deep.DeepCutAuto
import Derived.Deep.CutBlock
import Derived.Deep.RegionHeld3
import Derived.Laws.Rows
import Derived.Lib.AppendStr
import Derived.ArgAppend
import Derived.Laws.IdiomCopy
import Derived.OrdersHeld
import Derived.Laws.BitsLemmas
import Derived.RowKit
import Derived.WalkSpells
import Derived.Test.YtbcpkbbdmkmpkaaWWords
import Derived.Test.YtbcpkbbdmkmpkaaWLast
import Derived.Test.YtbcpkbbdmkmpkaaWTab
import Derived.Test.YtbcpkbbdmkmpkaaWFour
import Derived.Test.YtbcpkbbdmkmpkaaWQPut
import Derived.Test.YtbcpkbbdmkmpkaaWApart
import Derived.Test.YtbcpkbbdmkmpkaaWArr
import Derived.Test.YtbcpkbbdmkmpkaaWZeros
import Derived.Test.YtbcpkbbdmkmpkaaWFoot
import Derived.Test.YtbcpkbbdmkmpkaaWKept
import Derived.Test.YtbcpkbbdmkmpkaaWShare
import Derived.Test.YtbcpkbbdmkmpkaaWN
import Derived.Test.YtbcpkbbdmkmpkaaWFootNe
import Derived.Test.YtbcpkbbdmkmpkaaWAt
import Derived.Test.YtbcpkbbdmkmpkaaWEqStruct
import Derived.Test.YtbcpkbbdmkmpkaaWRepsOne
import Derived.Test.YtbcpkbbdmkmpkaaWInv
import Derived.Test.YtbcpkbbdmkmpkaaWInvWords
import Derived.Test.YtbcpkbbdmkmpkaaWGuard
import Derived.Test.YtbcpkbbdmkmpkaaWNEv
import Derived.Test.YtbcpkbbdmkmpkaaWMore
namespace Go.Proofs.Ytbcpkbbdmkmpkaa.PFnPlat
open Go.RowKit Go.Proofs.YtbcpkbbdmkmpkaaW.PrintWords Go.Proofs.YtbcpkbbdmkmpkaaW.PrintLast Go.Proofs.YtbcpkbbdmkmpkaaW.PrintMore
attribute [local go_sem] max2_int min2_int max_two min_two max_three min_three max_four min_four   -- for this text's walks alone
set_option linter.unusedVariables false
set_option linter.unusedSimpArgs false



def errW : Option Int → Value
  | none => .nilIface
  | some c => .iface 0 (.int .i64 c)
theorem errW_none : errW none = .nilIface := rfl
theorem errW_some (c : Int) : errW (some c) = .iface 0 (.int .i64 c) := rfl

theorem info3 : (Try.prog.info? 3).map (fun i => (i.zero, i.size, i.bytes)) = some (some (.int .i64 0), 1, 8) := by kernel_rfl
theorem info5 : (Try.prog.info? 5).map (fun i => (i.zero, i.size, i.bytes)) = some (some (.int .u8 0), 1, 1) := by kernel_rfl
theorem info40 : (Try.prog.info? 40).map (fun i => (i.zero, i.size, i.bytes)) = some (some (.int .u64 0), 1, 8) := by kernel_rfl
-- the values' own types

end Go.Proofs.Ytbcpkbbdmkmpkaa.PFnPlat
