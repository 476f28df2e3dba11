/- The law FnCylinders gives true, whatever bytes come in, where the listed tables hold what the program's text lays. The card: the tables tied to the text. No other conditions. (One of the texts of its proof, put together by a program of this session.) -/
import Derived.Test.YtkenfaengphiiaaGreatDoorProg
import Derived.Below
import Derived.Deep.Draws
import Derived.Deep.AppendLies
import Derived.Maps.AppendAt
import Derived.OwnWalk
import Derived.Laws.BytesArg
import Derived.Laws.MakeOwn
import Derived.Laws.OwnMore
import Derived.Deep.OwnRows
import Derived.Tactics
import Derived.Lib.ConvBytes
import Derived.Laws.Slices
import Derived.WalkKit
import Derived.KernelRfl
import Derived.RowKit3
import Derived.Deep.LoopGhost
import Derived.Deep.QuietTactic
import Derived.BigQuiet
import Derived.WideLaws
import Derived.Deep.DeepCutAuto
import Derived.Deep.CutBlock
import Derived.Deep.RegionHeld3
import Derived.Laws.Rows
import Derived.Lib.AppendStr
import Derived.ArgAppend
import Derived.Laws.IdiomCopy
import Derived.OrdersHeld
import Derived.Laws.BitsLemmas
import Derived.RowKit
import Derived.Test.YtkenfaengphiiaaGreatDoorZW1
import Derived.Test.YtkenfaengphiiaaGreatDoorZV
set_option linter.unusedSectionVars false
set_option linter.unusedSimpArgs false
set_option linter.unusedVariables false
namespace Go.Proofs.YtkenfaengphiiaaGreatDoor.PFnCylinders
open Go.RowKit Go.Proofs.YtkenfaengphiiaaGreatDoorW.PrintWords Go.Proofs.YtkenfaengphiiaaGreatDoorW.PrintLast Go.Proofs.YtkenfaengphiiaaGreatDoorW.PrintMore
def errW:Option Int->Value
 | none=> .nilIface
 | some c=> .iface 0 (.int .i64 c)
theorem zlr:errW none= .nilIface:=rfl
theorem zlq (c:Int):errW (some c)= .iface 0 (.int .i64 c):=rfl
-- the values' own types
end Go.Proofs.YtkenfaengphiiaaGreatDoor.PFnCylinders
