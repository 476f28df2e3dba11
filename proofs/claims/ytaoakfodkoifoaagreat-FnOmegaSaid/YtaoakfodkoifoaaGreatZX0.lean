/- The law FnOmega gives true, whatever comes in; each argument reads behind the call as it read before. No conditions. (One of the texts of its proof, put together by a program of this session.) -/
import Derived.Test.YtaoakfodkoifoaaGreatProg
import Derived.Below
import Derived.Deep.Draws
import Derived.Deep.AppendLies
import Derived.Maps.AppendAt
import Derived.OwnWalk
import Derived.Laws.BytesArg
import Derived.Laws.MakeOwn
import Derived.Laws.OwnMore
import Derived.Deep.OwnRows
import Derived.Tactics
import Derived.Lib.ConvBytes
import Derived.Laws.Slices
import Derived.WalkKit
import Derived.KernelRfl
import Derived.RowKit3
import Derived.Deep.LoopGhost
import Derived.Deep.QuietTactic
import Derived.BigQuiet
import Derived.WideLaws
import Derived.Deep.DeepCutAuto
import Derived.Deep.CutBlock
import Derived.Deep.RegionHeld3
import Derived.Laws.Rows
import Derived.Lib.AppendStr
import Derived.ArgAppend
import Derived.Laws.IdiomCopy
import Derived.OrdersHeld
import Derived.Laws.BitsLemmas
import Derived.RowKit
import Derived.Test.YtaoakfodkoifoaaGreatZW1
import Derived.Test.YtaoakfodkoifoaaGreatZV
set_option linter.unusedSectionVars false
set_option linter.unusedSimpArgs false
set_option linter.unusedVariables false
namespace Go.Proofs.YtaoakfodkoifoaaGreat.PFnOmega
open Go.RowKit Go.Proofs.YtaoakfodkoifoaaGreatW.PrintWords Go.Proofs.YtaoakfodkoifoaaGreatW.PrintLast Go.Proofs.YtaoakfodkoifoaaGreatW.PrintMore
def errW:Option Int->Value
 | none=> .nilIface
 | some c=> .iface 0 (.int .i64 c)
theorem zn3:errW none= .nilIface:=rfl
theorem zn2 (c:Int):errW (some c)= .iface 0 (.int .i64 c):=rfl
-- the values' own types
end Go.Proofs.YtaoakfodkoifoaaGreat.PFnOmega
