-- Written by a program of this session (mkprint.py) over the translation. Not trusted: Lean checks it.
import Derived.Test.YtljfjifdidgceaaProg
import Derived.Below
import Derived.Deep.Draws
import Derived.Deep.AppendLies
import Derived.Maps.AppendAt
import Derived.OwnWalk
import Derived.Laws.BytesArg
import Derived.Laws.MakeOwn
import Derived.Laws.OwnMore
import Derived.Deep.OwnRows
import Derived.Tactics
import Derived.Lib.ConvBytes
import Derived.Laws.Slices
import Derived.WalkKit
import Derived.KernelRfl
import Derived.RowKit3
import Derived.Deep.LoopGhost
import Derived.Deep.QuietTactic
import Derived.BigQuiet
import Derived.WideLaws
import Derived.Deep.DeepCutAuto
import Derived.Deep.CutBlock
import Derived.Deep.RegionHeld3
import Derived.Laws.Rows
import Derived.Lib.AppendStr
import Derived.ArgAppend
import Derived.Laws.IdiomCopy
import Derived.OrdersHeld
import Derived.Laws.BitsLemmas
import Derived.RowKit
import Derived.Test.YtljfjifdidgceaaAid
import Derived.Test.YtljfjifdidgceaaWWords
import Derived.Test.YtljfjifdidgceaaWLast
import Derived.Test.YtljfjifdidgceaaWTab
import Derived.Test.YtljfjifdidgceaaWFour
import Derived.Test.YtljfjifdidgceaaWQPut
import Derived.Test.YtljfjifdidgceaaWApart
import Derived.Test.YtljfjifdidgceaaWArr
import Derived.Test.YtljfjifdidgceaaWZeros
import Derived.Test.YtljfjifdidgceaaWFoot
import Derived.Test.YtljfjifdidgceaaWKept
import Derived.Test.YtljfjifdidgceaaWShare
import Derived.Test.YtljfjifdidgceaaWN
import Derived.Test.YtljfjifdidgceaaWFootNe
import Derived.Test.YtljfjifdidgceaaWAt
import Derived.Test.YtljfjifdidgceaaWEqStruct
import Derived.Test.YtljfjifdidgceaaWRepsOne
import Derived.Test.YtljfjifdidgceaaWInv
import Derived.Test.YtljfjifdidgceaaWInvWords
import Derived.Test.YtljfjifdidgceaaWGuard
import Derived.Test.YtljfjifdidgceaaWNEv
import Derived.Test.YtljfjifdidgceaaWMore
namespace Go.Proofs.Ytljfjifdidgceaa.PFnExactPutNum
open Go.RowKit Go.Proofs.YtljfjifdidgceaaW.PrintWords Go.Proofs.YtljfjifdidgceaaW.PrintLast Go.Proofs.YtljfjifdidgceaaW.PrintMore
attribute [local go_sem] max2_int min2_int max_two min_two max_three min_three max_four min_four   -- for this text's walks alone
set_option linter.unusedVariables false
set_option linter.unusedSimpArgs false



def errW : Option Int → Value
  | none => .nilIface
  | some c => .iface 0 (.int .i64 c)
theorem errW_none : errW none = .nilIface := rfl
theorem errW_some (c : Int) : errW (some c) = .iface 0 (.int .i64 c) := rfl

theorem info5 : (Try.prog.info? 5).map (fun i => (i.zero, i.size, i.bytes)) = some (some (.int .u8 0), 1, 1) := by kernel_rfl
-- the values' own types

end Go.Proofs.Ytljfjifdidgceaa.PFnExactPutNum
