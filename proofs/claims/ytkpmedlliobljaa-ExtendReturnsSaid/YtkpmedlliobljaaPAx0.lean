-- Written by wip/tools/wprint.py (the prover's own program over the kit's print) for this claim. Not trusted: Lean checks it.
import Derived.Test.YtkpmedlliobljaaProg
import Derived.Below
import Derived.Deep.Draws
import Derived.Deep.AppendLies
import Derived.Maps.AppendAt
import Derived.OwnWalk
import Derived.Laws.BytesArg
import Derived.Laws.MakeOwn
import Derived.Laws.OwnMore
import Derived.Deep.OwnRows
import Derived.Tactics
import Derived.Lib.ConvBytes
import Derived.Laws.Slices
import Derived.WalkKit
import Derived.KernelRfl
import Derived.RowKit3
import Derived.Deep.LoopGhost
import Derived.Deep.QuietTactic
import Derived.BigQuiet
import Derived.WideLaws
import Derived.Deep.DeepCutAuto
import Derived.Deep.CutBlock
import Derived.Deep.RegionHeld3
import Derived.Laws.Rows
import Derived.Lib.AppendStr
import Derived.ArgAppend
import Derived.Laws.IdiomCopy
import Derived.OrdersHeld
import Derived.Laws.BitsLemmas
import Derived.RowKit
import Derived.Test.YtkpmedlliobljaaWWords
import Derived.Test.YtkpmedlliobljaaWLast
import Derived.Test.YtkpmedlliobljaaWTab
import Derived.Test.YtkpmedlliobljaaWFour
import Derived.Test.YtkpmedlliobljaaWQPut
import Derived.Test.YtkpmedlliobljaaWApart
import Derived.Test.YtkpmedlliobljaaWArr
import Derived.Test.YtkpmedlliobljaaWZeros
import Derived.Test.YtkpmedlliobljaaWFoot
import Derived.Test.YtkpmedlliobljaaWKept
import Derived.Test.YtkpmedlliobljaaWShare
import Derived.Test.YtkpmedlliobljaaWN
import Derived.Test.YtkpmedlliobljaaWFootNe
import Derived.Test.YtkpmedlliobljaaWAt
import Derived.Test.YtkpmedlliobljaaWEqStruct
import Derived.Test.YtkpmedlliobljaaWRepsOne
import Derived.Test.YtkpmedlliobljaaWInv
import Derived.Test.YtkpmedlliobljaaWInvWords
import Derived.Test.YtkpmedlliobljaaWGuard
import Derived.Test.YtkpmedlliobljaaWNEv
import Derived.Test.YtkpmedlliobljaaWMore
import Derived.Test.YtkpmedlliobljaaXW
namespace Go.Proofs.Ytkpmedlliobljaa.PA
open Go.RowKit Go.Proofs.YtkpmedlliobljaaW.PrintWords Go.Proofs.YtkpmedlliobljaaW.PrintLast Go.Proofs.YtkpmedlliobljaaW.PrintMore
attribute [local go_sem] max2_int min2_int max_two min_two max_three min_three max_four min_four   -- for this text's walks alone
set_option linter.unusedVariables false
set_option linter.unusedSimpArgs false



def errW : Option Int → Value
  | none => .nilIface
  | some c => .iface 0 (.int .i64 c)
theorem errW_none : errW none = .nilIface := rfl
theorem errW_some (c : Int) : errW (some c) = .iface 0 (.int .i64 c) := rfl

theorem info3 : (Try.prog.info? 3).map (fun i => (i.zero, i.size, i.bytes)) = some (some (.int .i64 0), 1, 8) := by kernel_rfl
-- the values' own types

end Go.Proofs.Ytkpmedlliobljaa.PA
